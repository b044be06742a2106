import Derived.Test.YtdjecdghfmadoaaDoorSd
import Derived.Test.YtdjecdghfmadoaaDoorSc3
import Derived.Test.YtdjecdghfmadoaaDoorSc4
import Derived.Test.YtdjecdghfmadoaaDoorSc5
namespace Go.Proofs.YtdjecdghfmadoaaDoor.S
open Go.RowKit Go.Proofs.YtdjecdghfmadoaaDoorW.PrintWords Go.Proofs.YtdjecdghfmadoaaDoorW.PrintLast Go.Proofs.YtdjecdghfmadoaaDoorW.PrintMore
attribute [local go_sem] max2_int min2_int max_two min_two max_three min_three max_four min_four
set_option linter.unusedVariables false
set_option linter.unusedSimpArgs false

/-! ### spec_fiTurn: function 69 -/
set_option maxHeartbeats 8000000 in
set_option maxRecDepth 100000 in
theorem spec_fiTurn.calls (k : Nat) (a0_0 : Int) (a0_1 : Int) (A0_2 : Option Addr) (c0_2 : Nat) (l0_2 : List Int) (A0_3 : Option Addr) (c0_3 : Nat) (l0_3 : List Int) (r1 : Int) (r2 : Int) (r3 : List Int) (r4 : List Int) (w : World) (hr0_2 : Kd.C (Kd.int .i64) w A0_2 l0_2.length l0_2) (hc0_2 : l0_2.length ≤ c0_2) (hr0_3 : Kd.C (Kd.int .i64) w A0_3 l0_3.length l0_3) (hc0_3 : l0_3.length ≤ c0_3) (h : spec_fiTurn.f k a0_0 a0_1 l0_2 l0_3 = some (r1, r2, r3, r4)) :
  Calls Tryd.prog 69 #[.agg #[.int .i64 a0_0, .int .i64 a0_1, .slice A0_2 l0_2.length c0_2, .slice A0_3 l0_3.length c0_3]] w fun e w' => ∃ v2_ v3_ : Value, e = .returned (.agg #[.int .i64 r1, .int .i64 r2, v2_, v3_]) ∧ Kd.R (Kd.int .i64) 3 w' w.heap.size (fun k_ => some k_ ≠ (v3_ : Value).ownBlock) v2_ r3 ∧ Kd.R (Kd.int .i64) 3 w' w.heap.size (fun k_ => some k_ ≠ (v2_ : Value).ownBlock) v3_ r4 ∧ Below w.heap.size w w' := by
 have hu26 := Tryd.underlying26
 have HR0_2 := Aside0.mk hr0_2
 have HC0_2 := Aside0.mk hc0_2
 clear hr0_2 hc0_2
 have HR0_3 := Aside0.mk hr0_3
 have HC0_3 := Aside0.mk hc0_3
 clear hr0_3 hc0_3
 have HB := Aside0.mk (Below.refl w.heap.size w)
 have H : (spec_fiTurn.l0 k 0 a0_0 a0_1 l0_2 l0_3 a0_1 a0_0 ([] : List Int) ([] : List Int)) = some (r1, r2, r3, r4) := h
 clear h
 have H' := Aside0.mk H
 clear H
 go_enter Tryd.func69, Tryd.ntmps69
 go_wp2_with (first | ((with_reducible refine gate_dst (N := 1) rfl ?_); refine zbx 1 #[.int .i64 a0_0, .int .i64 a0_1, .slice A0_2 l0_2.length c0_2, .slice A0_3 l0_3.length c0_3] 26 ?_; intro gb305 hg w2 hbox hb; have BK305 := Aside0.mk (hbox); have GW305 := zGe hg; have GE305 := zGe hg; replace HB := zBb hb; clear hb hbox hg) | ((with_reducible refine gate_dst (N := 2) rfl ?_); refine zbx 2 #[.int .i64 0, .int .i64 0, .slice none 0 0, .slice none 0 0] 26 ?_; intro gb306 hg w3 hbox hb; have BK306 := Aside0.mk (hbox); have GW306 := zGe hg; have GE306 := zGe hg; have NB305_306 := zNl BK305 hg; have NB306_305 := zNg BK305 hg; replace BK305 := zKb BK305 hb; replace HB := zBb hb; clear hb hbox hg; have hnb4 := NB305_306.out; have hnc4 := NB306_305.out; obtain ⟨hcz5_0, hcz5_1, hcz5_2, hcz5_3, hfz5_0, hfz5_1, hfz5_2, hfz5_3⟩ := blk4 BK305) | ((with_reducible refine gate_dst (N := 3) rfl ?_); refine zbx 3 #[.int .i64 0, .int .i64 0, .slice none 0 0, .slice none 0 0] 26 ?_; intro gb307 hg w6 hbox hb; have BK307 := Aside0.mk (hbox); have GW307 := zGe hg; have GE307 := zGe hg; have NB305_307 := zNl BK305 hg; have NB307_305 := zNg BK305 hg; replace BK305 := zKb BK305 hb; have NB306_307 := zNl BK306 hg; have NB307_306 := zNg BK306 hg; replace BK306 := zKb BK306 hb; replace HB := zBb hb; clear hb hbox hg; have hnb7 := NB307_305.out; have hnc7 := NB305_307.out; have hnb8 := NB307_306.out; have hnc8 := NB306_307.out; obtain ⟨hcz9_0, hcz9_1, hcz9_2, hcz9_3, hfz9_0, hfz9_1, hfz9_2, hfz9_3⟩ := blk4 BK307))
 go_loopg [4] k (fun kq v4 w' => ∃ (x4_1 : Int) (x308000_1 : Int) (x308001_1 : Int) (x308002_1 : List Int) (x308003_1 : List Int) (u308002 : Value) (u308003 : Value), v4 = .int .i64 x4_1 ∧ Aside0 (spec_fiTurn.l0 kq x4_1 a0_0 a0_1 l0_2 l0_3 x308000_1 x308001_1 x308002_1 x308003_1 = some (r1, r2, r3, r4)) ∧ Aside0 (kq ≤ k) ∧ Aside0 (Kd.R (Kd.int .i64) 3 w' w.heap.size (fun k_ => some k_ ≠ (u308003 : Value).ownBlock) u308002 x308002_1) ∧ Aside0 (Kd.R (Kd.int .i64) 3 w' w.heap.size (fun k_ => some k_ ≠ (u308002 : Value).ownBlock) u308003 x308003_1) ∧ Aside0 (w'.heap[gb305]? = some (.cells #[.int .i64 a0_0, .int .i64 a0_1, (.slice A0_2 l0_2.length c0_2), (.slice A0_3 l0_3.length c0_3)] 26 (0, 0))) ∧ Aside0 (w'.heap[gb306]? = some (.cells #[.int .i64 0, .int .i64 0, (.slice none 0 0), (.slice none 0 0)] 26 (0, 0))) ∧ Aside0 (w'.heap[gb307]? = some (.cells #[.int .i64 x308000_1, .int .i64 x308001_1, u308002, u308003] 26 (0, 0))) ∧ Aside0 (Below w.heap.size w w'))
 case atStart => exact ⟨(0), (a0_1), (a0_0), (([] : List Int)), (([] : List Int)), (.slice none 0 0), (.slice none 0 0), zA, H', ⟨Nat.le_refl _⟩, ⟨by first | exact Kd.R_nil _ _ _ _ _ | exact Kd.N_nil _ _ _ _ _ | exact Kd.V_nil _ _ _ _ _ | exact Kd.Q_nil _ _ _ _ _ | exact Kd.S_nil _ _ _ _ _⟩, ⟨by first | exact Kd.R_nil _ _ _ _ _ | exact Kd.N_nil _ _ _ _ _ | exact Kd.V_nil _ _ _ _ _ | exact Kd.Q_nil _ _ _ _ _ | exact Kd.S_nil _ _ _ _ _⟩, ⟨by (with_reducible repeat (first | refine blk_drewN ?_ _ | refine blk_drew ?_ | refine blk_alloc ?_ _)); refine blk_far ?_ NB305_307.out _; (with_reducible repeat (first | refine blk_drewN ?_ _ | refine blk_drew ?_ | refine blk_alloc ?_ _)); refine blk_far ?_ NB305_307.out _; (with_reducible repeat (first | refine blk_drewN ?_ _ | refine blk_drew ?_ | refine blk_alloc ?_ _)); refine blk_far ?_ NB305_307.out _; (with_reducible repeat (first | refine blk_drewN ?_ _ | refine blk_drew ?_ | refine blk_alloc ?_ _)); refine blk_far ?_ NB305_307.out _; (with_reducible repeat (first | refine blk_drewN ?_ _ | refine blk_drew ?_ | refine blk_alloc ?_ _)); exact BK305.out⟩, ⟨by (with_reducible repeat (first | refine blk_drewN ?_ _ | refine blk_drew ?_ | refine blk_alloc ?_ _)); refine blk_far ?_ NB306_307.out _; (with_reducible repeat (first | refine blk_drewN ?_ _ | refine blk_drew ?_ | refine blk_alloc ?_ _)); refine blk_far ?_ NB306_307.out _; (with_reducible repeat (first | refine blk_drewN ?_ _ | refine blk_drew ?_ | refine blk_alloc ?_ _)); refine blk_far ?_ NB306_307.out _; (with_reducible repeat (first | refine blk_drewN ?_ _ | refine blk_drew ?_ | refine blk_alloc ?_ _)); refine blk_far ?_ NB306_307.out _; (with_reducible repeat (first | refine blk_drewN ?_ _ | refine blk_drew ?_ | refine blk_alloc ?_ _)); exact BK306.out⟩, ⟨by (with_reducible repeat (first | refine blk_drewN ?_ _ | refine blk_drew ?_ | refine blk_alloc ?_ _)); refine blk_put (cs := #[.int .i64 a0_1, .int .i64 a0_0, .slice none 0 0, .slice none 0 0]) ?_ 3 _ rfl; (with_reducible repeat (first | refine blk_drewN ?_ _ | refine blk_drew ?_ | refine blk_alloc ?_ _)); refine blk_put (cs := #[.int .i64 a0_1, .int .i64 a0_0, .slice none 0 0, .slice none 0 0]) ?_ 2 _ rfl; (with_reducible repeat (first | refine blk_drewN ?_ _ | refine blk_drew ?_ | refine blk_alloc ?_ _)); refine blk_put (cs := #[.int .i64 a0_1, .int .i64 0, .slice none 0 0, .slice none 0 0]) ?_ 1 _ rfl; (with_reducible repeat (first | refine blk_drewN ?_ _ | refine blk_drew ?_ | refine blk_alloc ?_ _)); refine blk_put (cs := #[.int .i64 0, .int .i64 0, .slice none 0 0, .slice none 0 0]) ?_ 0 _ rfl; (with_reducible repeat (first | refine blk_drewN ?_ _ | refine blk_drew ?_ | refine blk_alloc ?_ _)); exact BK307.out⟩, ⟨zB⟩⟩
 case round =>
  clear H'
  (try clear p2); (try clear c4); (try clear c6); (try clear c7); (try clear c8); (try clear hcz5_0); (try clear hcz5_1); (try clear hcz5_2); (try clear hcz5_3); (try clear hcz9_0); (try clear hcz9_1); (try clear hcz9_2); (try clear hcz9_3); (try clear hfz5_0); (try clear hfz5_1); (try clear hfz5_2); (try clear hfz5_3); (try clear hfz9_0); (try clear hfz9_1); (try clear hfz9_2); (try clear hfz9_3)
  obtain ⟨x4_1, x308000_1, x308001_1, x308002_1, x308003_1, u308002, u308003, rfl, HA, HK1, HO_308002, HO_308003, BK305, BK306, BK307, HB⟩ := hrel
  cases gk with
  | zero => exact absurd HA.out (by simp [spec_fiTurn.l0])
  | succ k1 =>
   have H := HA.out
   clear HA
   simp only [spec_fiTurn.l0] at H
   by_cases c10 : x4_1 ≤ a0_1
   ·rw [if_pos c10] at H
    have c10b0 : decide (x4_1 ≤ a0_1) = true := decide_eq_true c10
    clear c10
    have H' := Aside0.mk H
    clear H
    have hnb11 := NB305_306.out
    have hnc11 := NB306_305.out
    have hnb12 := NB305_307.out
    have hnc12 := NB307_305.out
    obtain ⟨hcz13_0, hcz13_1, hcz13_2, hcz13_3, hfz13_0, hfz13_1, hfz13_2, hfz13_3⟩ := blk4 BK305
    go_wp2
    go_loopg [5] k1 (fun kq v5 w' => ∃ (x5_2 : Int) (x308000_2 : Int) (x308001_2 : Int) (x308002_2 : List Int) (x308003_2 : List Int) (u308002 : Value) (u308003 : Value), v5 = .int .i64 x5_2 ∧ Aside0 (spec_fiTurn.l1 kq x4_1 x5_2 a0_0 a0_1 l0_2 l0_3 x308000_2 x308001_2 x308002_2 x308003_2 = some (r1, r2, r3, r4)) ∧ Aside0 (kq ≤ k1) ∧ Aside0 (Kd.R (Kd.int .i64) 3 w' w.heap.size (fun k_ => some k_ ≠ (u308003 : Value).ownBlock) u308002 x308002_2) ∧ Aside0 (Kd.R (Kd.int .i64) 3 w' w.heap.size (fun k_ => some k_ ≠ (u308002 : Value).ownBlock) u308003 x308003_2) ∧ Aside0 (w'.heap[gb305]? = some (.cells #[.int .i64 a0_0, .int .i64 a0_1, (.slice A0_2 l0_2.length c0_2), (.slice A0_3 l0_3.length c0_3)] 26 (0, 0))) ∧ Aside0 (w'.heap[gb306]? = some (.cells #[.int .i64 0, .int .i64 0, (.slice none 0 0), (.slice none 0 0)] 26 (0, 0))) ∧ Aside0 (w'.heap[gb307]? = some (.cells #[.int .i64 x308000_2, .int .i64 x308001_2, u308002, u308003] 26 (0, 0))) ∧ Aside0 (Below w.heap.size w w'))
    case atStart => exact ⟨(0), (x308000_1), (x308001_1), (x308002_1), (x308003_1), (u308002), (u308003), zA, H', ⟨Nat.le_refl _⟩, ⟨zR HO_308002⟩, ⟨zR HO_308003⟩, ⟨zK BK305⟩, ⟨zK BK306⟩, ⟨zK BK307⟩, ⟨zB⟩⟩
    case round =>
     clear H'
     (try clear c1); (try clear p2); (try clear c4); (try clear c6); (try clear c7); (try clear c8); (try clear c10); (try clear c10b0); (try clear c11); (try clear c12); (try clear hcz13_0); (try clear hcz13_1); (try clear hcz13_2); (try clear hcz13_3); (try clear hcz5_0); (try clear hcz5_1); (try clear hcz5_2); (try clear hcz5_3); (try clear hcz9_0); (try clear hcz9_1); (try clear hcz9_2); (try clear hcz9_3); (try clear hfz13_0); (try clear hfz13_1); (try clear hfz13_2); (try clear hfz13_3); (try clear hfz5_0); (try clear hfz5_1); (try clear hfz5_2); (try clear hfz5_3); (try clear hfz9_0); (try clear hfz9_1); (try clear hfz9_2); (try clear hfz9_3); (try clear p2)
     obtain ⟨x5_2, x308000_2, x308001_2, x308002_2, x308003_2, u308002, u308003, rfl, HA, HK2, HO_308002, HO_308003, BK305, BK306, BK307, HB⟩ := hrel
     cases gk with
     | zero => exact absurd HA.out (by simp [spec_fiTurn.l1])
     | succ k2 =>
      have H := HA.out
      clear HA
      simp only [spec_fiTurn.l1] at H
      by_cases c14 : x5_2 ≤ a0_0
      ·rw [if_pos c14] at H
       have c14b0 : decide (x5_2 ≤ a0_0) = true := decide_eq_true c14
       clear c14
       have HC15 := Aside0.mk H
       clear H
       have hnb16 := NB305_306.out
       have hnc16 := NB306_305.out
       have hnb17 := NB305_307.out
       have hnc17 := NB307_305.out
       obtain ⟨hcz18_0, hcz18_1, hcz18_2, hcz18_3, hfz18_0, hfz18_1, hfz18_2, hfz18_3⟩ := blk4 BK305
       go_upto_region 8 with (fail)
       go_cut [32] (fun v32 wc => ∃ (kq : Nat) (x32_14 : Bool), v32 = .bool x32_14 ∧ Aside0 (spec_fiTurn.j2 kq x4_1 x5_2 x32_14 a0_0 a0_1 l0_2 l0_3 x308000_2 x308001_2 x308002_2 x308003_2 = some (r1, r2, r3, r4)) ∧ Aside0 (kq ≤ k2) ∧ Aside0 (Kd.R (Kd.int .i64) 3 wc w.heap.size (fun k_ => some k_ ≠ (u308003 : Value).ownBlock) u308002 x308002_2) ∧ Aside0 (Kd.R (Kd.int .i64) 3 wc w.heap.size (fun k_ => some k_ ≠ (u308002 : Value).ownBlock) u308003 x308003_2) ∧ Aside0 (wc.heap[gb305]? = some (.cells #[.int .i64 a0_0, .int .i64 a0_1, (.slice A0_2 l0_2.length c0_2), (.slice A0_3 l0_3.length c0_3)] 26 (0, 0))) ∧ Aside0 (wc.heap[gb306]? = some (.cells #[.int .i64 0, .int .i64 0, (.slice none 0 0), (.slice none 0 0)] 26 (0, 0))) ∧ Aside0 (wc.heap[gb307]? = some (.cells #[.int .i64 x308000_2, .int .i64 x308001_2, u308002, u308003] 26 (0, 0))) ∧ Aside0 (Below w.heap.size w wc))
       case first =>
        have H := HC15.out
        clear HC15
        by_cases c19 : x5_2 < a0_0
        ·rw [if_pos c19] at H
         have c19b0 : decide (x5_2 < a0_0) = true := decide_eq_true c19
         clear c19
         (first | rw [c19b0] | (simp only [i64_w, i32_w]; rw [c19b0]) | skip)
         replace H := Option.bind_eq_some_iff.mp H
         obtain ⟨t308, A200, H⟩ := H
         replace H : (spec_fiTurn.j2 k2 x4_1 x5_2 t308 a0_0 a0_1 l0_2 l0_3 x308000_2 x308001_2 x308002_2 x308003_2) = some (r1, r2, r3, r4) := H
         have A20 := Aside0.mk A200
         clear A200
         have H' := Aside0.mk H
         clear H
         have hnb21 := NB305_306.out
         have hnc21 := NB306_305.out
         have hnb22 := NB305_307.out
         have hnc22 := NB307_305.out
         obtain ⟨hcz23_0, hcz23_1, hcz23_2, hcz23_3, hfz23_0, hfz23_1, hfz23_2, hfz23_3⟩ := blk4 BK305
         go_wp2_with (first | (go_at_call 106; (with_reducible refine (spec_fiHas.calls k2 a0_0 a0_1 _ _ l0_2 _ _ l0_3 false x5_2 x4_1 t308 _ ?side1 ?side2 ?side3 ?side4 A20.out).mono ?_); (case side1 => exact zC HR0_2); (case side2 => exact HC0_2.out); (case side3 => exact zC HR0_3); (case side4 => exact HC0_3.out); rintro e w24 ⟨rfl, hb⟩; replace HO_308002 := Aside0.mk (Kd.R_below (zR HO_308002) hb); replace HO_308003 := Aside0.mk (Kd.R_below (zR HO_308003) hb); replace BK305 := zKb BK305 hb; replace BK306 := zKb BK306 hb; replace BK307 := zKb BK307 hb; replace HB := zBb hb; (try clear hb); (try clear hb2); (try clear hk); (try clear hi)))
         go_meet
         case rel => exact ⟨_, (t308), zA, H', ⟨by have := HK1.out; have := HK2.out; first | omega | exact Nat.le_refl _⟩, ⟨zR HO_308002⟩, ⟨zR HO_308003⟩, ⟨zK BK305⟩, ⟨zK BK306⟩, ⟨zK BK307⟩, ⟨zB⟩⟩
        ·rw [if_neg c19] at H
         have c19b0 : decide (x5_2 < a0_0) = false := decide_eq_false c19
         clear c19
         (first | rw [c19b0] | (simp only [i64_w, i32_w]; rw [c19b0]) | skip)
         have H' := Aside0.mk H
         clear H
         have hnb25 := NB305_306.out
         have hnc25 := NB306_305.out
         have hnb26 := NB305_307.out
         have hnc26 := NB307_305.out
         obtain ⟨hcz27_0, hcz27_1, hcz27_2, hcz27_3, hfz27_0, hfz27_1, hfz27_2, hfz27_3⟩ := blk4 BK305
         go_wp2
         go_meet
         case rel => exact ⟨_, (false), zA, H', ⟨by have := HK1.out; have := HK2.out; first | omega | exact Nat.le_refl _⟩, ⟨zR HO_308002⟩, ⟨zR HO_308003⟩, ⟨zK BK305⟩, ⟨zK BK306⟩, ⟨zK BK307⟩, ⟨zB⟩⟩
       case rest =>
        clear HC15
        (try clear c1); (try clear c2); (try clear p2); (try clear c4); (try clear c6); (try clear c7); (try clear c8); (try clear c10); (try clear c10b0); (try clear c11); (try clear c12); (try clear c14); (try clear c14b0); (try clear c16); (try clear c17); (try clear c19); (try clear c19b0); (try clear c21); (try clear c22); (try clear c25); (try clear c26); (try clear hcz13_0); (try clear hcz13_1); (try clear hcz13_2); (try clear hcz13_3); (try clear hcz18_0); (try clear hcz18_1); (try clear hcz18_2); (try clear hcz18_3); (try clear hcz23_0); (try clear hcz23_1); (try clear hcz23_2); (try clear hcz23_3); (try clear hcz27_0); (try clear hcz27_1); (try clear hcz27_2); (try clear hcz27_3); (try clear hcz5_0); (try clear hcz5_1); (try clear hcz5_2); (try clear hcz5_3); (try clear hcz9_0); (try clear hcz9_1); (try clear hcz9_2); (try clear hcz9_3); (try clear hfz13_0); (try clear hfz13_1); (try clear hfz13_2); (try clear hfz13_3); (try clear hfz18_0); (try clear hfz18_1); (try clear hfz18_2); (try clear hfz18_3); (try clear hfz23_0); (try clear hfz23_1); (try clear hfz23_2); (try clear hfz23_3); (try clear hfz27_0); (try clear hfz27_1); (try clear hfz27_2); (try clear hfz27_3); (try clear hfz5_0); (try clear hfz5_1); (try clear hfz5_2); (try clear hfz5_3); (try clear hfz9_0); (try clear hfz9_1); (try clear hfz9_2); (try clear hfz9_3); (try clear p2)
        obtain ⟨kq, x32_14, rfl, HA, HJ14, HO_308002, HO_308003, BK305, BK306, BK307, HB⟩ := hcut
        cases kq with
        | zero => exact absurd HA.out (by simp [spec_fiTurn.j2])
        | succ kj14 =>
         have H := HA.out
         clear HA
         simp only [spec_fiTurn.j2] at H
         have HC28 := Aside0.mk H
         clear H
         go_upto_if 32 with (fail)
         go_cut [] (fun wc => ∃ (kq : Nat) (x308000_27 : Int) (x308001_27 : Int) (x308002_27 : List Int) (x308003_27 : List Int) (u308002 : Value) (u308003 : Value), Aside0 (spec_fiTurn.j3 kq x4_1 x5_2 a0_0 a0_1 l0_2 l0_3 x308000_27 x308001_27 x308002_27 x308003_27 = some (r1, r2, r3, r4)) ∧ Aside0 (kq ≤ kj14) ∧ Aside0 (Kd.R (Kd.int .i64) 3 wc w.heap.size (fun k_ => some k_ ≠ (u308003 : Value).ownBlock) u308002 x308002_27) ∧ Aside0 (Kd.R (Kd.int .i64) 3 wc w.heap.size (fun k_ => some k_ ≠ (u308002 : Value).ownBlock) u308003 x308003_27) ∧ Aside0 (wc.heap[gb305]? = some (.cells #[.int .i64 a0_0, .int .i64 a0_1, (.slice A0_2 l0_2.length c0_2), (.slice A0_3 l0_3.length c0_3)] 26 (0, 0))) ∧ Aside0 (wc.heap[gb306]? = some (.cells #[.int .i64 0, .int .i64 0, (.slice none 0 0), (.slice none 0 0)] 26 (0, 0))) ∧ Aside0 (wc.heap[gb307]? = some (.cells #[.int .i64 x308000_27, .int .i64 x308001_27, u308002, u308003] 26 (0, 0))) ∧ Aside0 (Below w.heap.size w wc))
         case first =>
          have H := HC28.out
          clear HC28
          by_cases c29 : x32_14 = true
          ·subst c29
           have H1 : ((spec_fiPut.f kj14 x308000_2 x308001_2 x308002_2 x308003_2 true (wrap64 (a0_1 - x4_1)) x5_2).bind fun bt309 => (spec_fiTurn.j3 kj14 x4_1 x5_2 a0_0 a0_1 l0_2 l0_3 bt309.1 bt309.2.1 bt309.2.2.1 bt309.2.2.2)) = some (r1, r2, r3, r4) := by rw [if_pos rfl] at H; exact H
           clear H
           have H := H1
           clear H1
           replace H := Option.bind_eq_some_iff.mp H
           obtain ⟨⟨t309, t310, t311, t314⟩, A300, H⟩ := H
           replace H : (spec_fiTurn.j3 kj14 x4_1 x5_2 a0_0 a0_1 l0_2 l0_3 t309 t310 t311 t314) = some (r1, r2, r3, r4) := H
           have A30 := Aside0.mk A300
           clear A300
           have H' := Aside0.mk H
           clear H
           have hnb31 := NB307_305.out
           have hnc31 := NB305_307.out
           have hnb32 := NB307_306.out
           have hnc32 := NB306_307.out
           obtain ⟨hcz33_0, hcz33_1, hcz33_2, hcz33_3, hfz33_0, hfz33_1, hfz33_2, hfz33_3⟩ := blk4 BK307
           have hnb34 := NB305_306.out
           have hnc34 := NB306_305.out
           obtain ⟨hcz35_0, hcz35_1, hcz35_2, hcz35_3, hfz35_0, hfz35_1, hfz35_2, hfz35_3⟩ := blk4 BK305
           obtain ⟨Ao36, co36, eo36⟩ := Kd.R_slice HO_308002.out
           subst eo36
           obtain ⟨Ao37, co37, eo37⟩ := Kd.R_slice HO_308003.out
           subst eo37
           go_wp2_with (first | ((with_reducible refine gate_callee (f := 107) rfl ?_); refine goesL_ (some 39) rfl rfl Tryd.func107 (by kernel_rfl) rfl #[.agg #[.int .i64 x308000_2, .int .i64 x308001_2, .slice Ao36 x308002_2.length co36, .slice Ao37 x308003_2.length co37], .bool true, .int .i64 (wrap64 (a0_1 - x4_1)), .int .i64 x5_2] rfl zM ?_; (with_reducible refine (spec_fiPut.calls kj14 x308000_2 x308001_2 _ _ x308002_2 _ _ x308003_2 true (wrap64 (a0_1 - x4_1)) x5_2 t309 t310 t311 t314 _ ?side1 ?side2 ?side3 ?side4 A30.out).mono ?_); (case side1 => exact zKr (Kd.R_reads' HO_308002.out).2.2); (case side2 => exact (Kd.R_reads' HO_308002.out).2.1); (case side3 => exact zKr (Kd.R_reads' HO_308003.out).2.2); (case side4 => exact (Kd.R_reads' HO_308003.out).2.1); rintro e w38 ⟨v312, v315, rfl, ho0, ho1, hb⟩; refine ⟨_, rfl, ?_⟩; have HO313 := Aside0.mk (Kd.R_lower (Kd.R_new' (Kd.R_new' ho0 (Kd.R_lt (zR HO_308002))) (Kd.R_lt (zR HO_308003))) (below_size zB)); have HO316 := Aside0.mk (Kd.R_lower (Kd.R_new' (Kd.R_new' ho1 (Kd.R_lt (zR HO_308002))) (Kd.R_lt (zR HO_308003))) (below_size zB)); replace HO_308002 := Aside0.mk (Kd.R_mono (Kd.R_told (Kd.R_told (Kd.R_old (zR HO_308002) hb) (Kd.R_base ho0)) (Kd.R_base ho1)) (fun _ h_ => h_.1)); replace HO_308003 := Aside0.mk (Kd.R_mono (Kd.R_told (Kd.R_told (Kd.R_old (zR HO_308003) hb) (Kd.R_base ho0)) (Kd.R_base ho1)) (fun _ h_ => h_.1)); replace BK305 := zKb BK305 hb; replace BK306 := zKb BK306 hb; replace BK307 := zKb BK307 hb; replace HB := zBb hb; (try clear hb); (try clear hb2); (try clear hk); (try clear hi); (try clear ho0); (try clear ho1); obtain ⟨hcz39_0, hcz39_1, hcz39_2, hcz39_3, hfz39_0, hfz39_1, hfz39_2, hfz39_3⟩ := blk4 BK307; obtain ⟨Ao40, co40, eo40⟩ := Kd.R_slice HO313.out; subst eo40; obtain ⟨Ao41, co41, eo41⟩ := Kd.R_slice HO316.out; subst eo41))
           go_meet
           case rel => exact ⟨_, (t309), (t310), (t311), (t314), (.slice Ao40 t311.length co40), (.slice Ao41 t314.length co41), H', ⟨by have := HK1.out; have := HK2.out; have := HJ14.out; first | omega | exact Nat.le_refl _⟩, ⟨by (with_reducible repeat (first | apply Kd.R_alloc | apply Kd.R_drewN | apply Kd.R_drew)); exact Kd.R_mono (Kd.R_far (p := ⟨gb307, 3, none⟩) (Kd.R_far (p := ⟨gb307, 2, none⟩) (Kd.R_far (p := ⟨gb307, 1, none⟩) (Kd.R_far (p := ⟨gb307, 0, none⟩) (Kd.R_types HO313.out BK307.out (by decide)) (fun _ hk => hk.2) (.int .i64 t309)) (fun _ hk => hk.2) (.int .i64 t310)) (fun _ hk => hk.2) (.slice Ao40 t311.length co40)) (fun _ hk => hk.2) (.slice Ao41 t314.length co41)) (fun _ hk => hk.1.1.1)⟩, ⟨by (with_reducible repeat (first | apply Kd.R_alloc | apply Kd.R_drewN | apply Kd.R_drew)); exact Kd.R_mono (Kd.R_far (p := ⟨gb307, 3, none⟩) (Kd.R_far (p := ⟨gb307, 2, none⟩) (Kd.R_far (p := ⟨gb307, 1, none⟩) (Kd.R_far (p := ⟨gb307, 0, none⟩) (Kd.R_types HO316.out BK307.out (by decide)) (fun _ hk => hk.2) (.int .i64 t309)) (fun _ hk => hk.2) (.int .i64 t310)) (fun _ hk => hk.2) (.slice Ao40 t311.length co40)) (fun _ hk => hk.2) (.slice Ao41 t314.length co41)) (fun _ hk => hk.1.1.1)⟩, ⟨by (with_reducible repeat (first | refine blk_drewN ?_ _ | refine blk_drew ?_ | refine blk_alloc ?_ _)); refine blk_far ?_ NB305_307.out _; (with_reducible repeat (first | refine blk_drewN ?_ _ | refine blk_drew ?_ | refine blk_alloc ?_ _)); refine blk_far ?_ NB305_307.out _; (with_reducible repeat (first | refine blk_drewN ?_ _ | refine blk_drew ?_ | refine blk_alloc ?_ _)); refine blk_far ?_ NB305_307.out _; (with_reducible repeat (first | refine blk_drewN ?_ _ | refine blk_drew ?_ | refine blk_alloc ?_ _)); refine blk_far ?_ NB305_307.out _; (with_reducible repeat (first | refine blk_drewN ?_ _ | refine blk_drew ?_ | refine blk_alloc ?_ _)); exact BK305.out⟩, ⟨by (with_reducible repeat (first | refine blk_drewN ?_ _ | refine blk_drew ?_ | refine blk_alloc ?_ _)); refine blk_far ?_ NB306_307.out _; (with_reducible repeat (first | refine blk_drewN ?_ _ | refine blk_drew ?_ | refine blk_alloc ?_ _)); refine blk_far ?_ NB306_307.out _; (with_reducible repeat (first | refine blk_drewN ?_ _ | refine blk_drew ?_ | refine blk_alloc ?_ _)); refine blk_far ?_ NB306_307.out _; (with_reducible repeat (first | refine blk_drewN ?_ _ | refine blk_drew ?_ | refine blk_alloc ?_ _)); refine blk_far ?_ NB306_307.out _; (with_reducible repeat (first | refine blk_drewN ?_ _ | refine blk_drew ?_ | refine blk_alloc ?_ _)); exact BK306.out⟩, ⟨by (with_reducible repeat (first | refine blk_drewN ?_ _ | refine blk_drew ?_ | refine blk_alloc ?_ _)); refine blk_put (cs := #[.int .i64 t309, .int .i64 t310, .slice Ao40 t311.length co40, .slice Ao37 x308003_2.length co37]) ?_ 3 _ rfl; (with_reducible repeat (first | refine blk_drewN ?_ _ | refine blk_drew ?_ | refine blk_alloc ?_ _)); refine blk_put (cs := #[.int .i64 t309, .int .i64 t310, .slice Ao36 x308002_2.length co36, .slice Ao37 x308003_2.length co37]) ?_ 2 _ rfl; (with_reducible repeat (first | refine blk_drewN ?_ _ | refine blk_drew ?_ | refine blk_alloc ?_ _)); refine blk_put (cs := #[.int .i64 t309, .int .i64 x308001_2, .slice Ao36 x308002_2.length co36, .slice Ao37 x308003_2.length co37]) ?_ 1 _ rfl; (with_reducible repeat (first | refine blk_drewN ?_ _ | refine blk_drew ?_ | refine blk_alloc ?_ _)); refine blk_put (cs := #[.int .i64 x308000_2, .int .i64 x308001_2, .slice Ao36 x308002_2.length co36, .slice Ao37 x308003_2.length co37]) ?_ 0 _ rfl; (with_reducible repeat (first | refine blk_drewN ?_ _ | refine blk_drew ?_ | refine blk_alloc ?_ _)); exact BK307.out⟩, ⟨zB⟩⟩
          ·replace c29 := Bool.eq_false_iff.mpr c29
           subst c29
           have H1 : (spec_fiTurn.j3 kj14 x4_1 x5_2 a0_0 a0_1 l0_2 l0_3 x308000_2 x308001_2 x308002_2 x308003_2) = some (r1, r2, r3, r4) := by rw [if_neg (show ¬ (false = true) by decide)] at H; exact H
           clear H
           have H := H1
           clear H1
           have H' := Aside0.mk H
           clear H
           go_wp2
           go_meet
           case rel => exact ⟨_, (x308000_2), (x308001_2), (x308002_2), (x308003_2), (u308002), (u308003), H', ⟨by have := HK1.out; have := HK2.out; have := HJ14.out; first | omega | exact Nat.le_refl _⟩, ⟨zR HO_308002⟩, ⟨zR HO_308003⟩, ⟨zK BK305⟩, ⟨zK BK306⟩, ⟨zK BK307⟩, ⟨zB⟩⟩
         case rest =>
          clear HC28
          (try clear c1); (try clear c2); (try clear p2); (try clear c3); (try clear c4); (try clear c6); (try clear p6); (try clear c7); (try clear c8); (try clear c10); (try clear c10b0); (try clear c11); (try clear c12); (try clear c14); (try clear c14b0); (try clear c16); (try clear c17); (try clear c19); (try clear c19b0); (try clear c21); (try clear c22); (try clear c25); (try clear c26); (try clear c29); (try clear c31); (try clear c32); (try clear c34); (try clear hcz13_0); (try clear hcz13_1); (try clear hcz13_2); (try clear hcz13_3); (try clear hcz18_0); (try clear hcz18_1); (try clear hcz18_2); (try clear hcz18_3); (try clear hcz23_0); (try clear hcz23_1); (try clear hcz23_2); (try clear hcz23_3); (try clear hcz27_0); (try clear hcz27_1); (try clear hcz27_2); (try clear hcz27_3); (try clear hcz33_0); (try clear hcz33_1); (try clear hcz33_2); (try clear hcz33_3); (try clear hcz35_0); (try clear hcz35_1); (try clear hcz35_2); (try clear hcz35_3); (try clear hcz39_0); (try clear hcz39_1); (try clear hcz39_2); (try clear hcz39_3); (try clear hcz5_0); (try clear hcz5_1); (try clear hcz5_2); (try clear hcz5_3); (try clear hcz9_0); (try clear hcz9_1); (try clear hcz9_2); (try clear hcz9_3); (try clear hfz13_0); (try clear hfz13_1); (try clear hfz13_2); (try clear hfz13_3); (try clear hfz18_0); (try clear hfz18_1); (try clear hfz18_2); (try clear hfz18_3); (try clear hfz23_0); (try clear hfz23_1); (try clear hfz23_2); (try clear hfz23_3); (try clear hfz27_0); (try clear hfz27_1); (try clear hfz27_2); (try clear hfz27_3); (try clear hfz33_0); (try clear hfz33_1); (try clear hfz33_2); (try clear hfz33_3); (try clear hfz35_0); (try clear hfz35_1); (try clear hfz35_2); (try clear hfz35_3); (try clear hfz39_0); (try clear hfz39_1); (try clear hfz39_2); (try clear hfz39_3); (try clear hfz5_0); (try clear hfz5_1); (try clear hfz5_2); (try clear hfz5_3); (try clear hfz9_0); (try clear hfz9_1); (try clear hfz9_2); (try clear hfz9_3); (try clear p2)
          obtain ⟨kq, x308000_27, x308001_27, x308002_27, x308003_27, u308002, u308003, HA, HJ27, HO_308002, HO_308003, BK305, BK306, BK307, HB⟩ := hcut
          cases kq with
          | zero => exact absurd HA.out (by simp [spec_fiTurn.j3])
          | succ kj27 =>
           have H := HA.out
           clear HA
           simp only [spec_fiTurn.j3] at H
           by_cases c42 : x4_1 < a0_1
           ·rw [if_pos c42] at H
            have c42b0 : decide (x4_1 < a0_1) = true := decide_eq_true c42
            clear c42
            replace H := Option.bind_eq_some_iff.mp H
            obtain ⟨t317, A430, H⟩ := H
            replace H : (if t317 = true then ((spec_fiPut.f kj27 x308000_27 x308001_27 x308002_27 x308003_27 false (wrap64 ((wrap64 (a0_1 - 1)) - x4_1)) x5_2).bind fun bt318 => (spec_fiTurn.l1 kj27 x4_1 (wrap64 (x5_2 + 1)) a0_0 a0_1 l0_2 l0_3 bt318.1 bt318.2.1 bt318.2.2.1 bt318.2.2.2)) else (spec_fiTurn.l1 kj27 x4_1 (wrap64 (x5_2 + 1)) a0_0 a0_1 l0_2 l0_3 x308000_27 x308001_27 x308002_27 x308003_27)) = some (r1, r2, r3, r4) := H
            have A43 := Aside0.mk A430
            clear A430
            by_cases c44 : t317 = true
            ·subst c44
             have H1 : ((spec_fiPut.f kj27 x308000_27 x308001_27 x308002_27 x308003_27 false (wrap64 ((wrap64 (a0_1 - 1)) - x4_1)) x5_2).bind fun bt318 => (spec_fiTurn.l1 kj27 x4_1 (wrap64 (x5_2 + 1)) a0_0 a0_1 l0_2 l0_3 bt318.1 bt318.2.1 bt318.2.2.1 bt318.2.2.2)) = some (r1, r2, r3, r4) := by rw [if_pos rfl] at H; exact H
             clear H
             have H := H1
             clear H1
             replace H := Option.bind_eq_some_iff.mp H
             obtain ⟨⟨t318, t319, t320, t323⟩, A450, H⟩ := H
             replace H : (spec_fiTurn.l1 kj27 x4_1 (wrap64 (x5_2 + 1)) a0_0 a0_1 l0_2 l0_3 t318 t319 t320 t323) = some (r1, r2, r3, r4) := H
             have A45 := Aside0.mk A450
             clear A450
             have H' := Aside0.mk H
             clear H
             have hnb46 := NB305_306.out
             have hnc46 := NB306_305.out
             have hnb47 := NB305_307.out
             have hnc47 := NB307_305.out
             obtain ⟨hcz48_0, hcz48_1, hcz48_2, hcz48_3, hfz48_0, hfz48_1, hfz48_2, hfz48_3⟩ := blk4 BK305
             go_wp2_with (first | (go_at_call 106; (with_reducible refine (spec_fiHas.calls kj27 a0_0 a0_1 _ _ l0_2 _ _ l0_3 true x5_2 x4_1 true _ ?side1 ?side2 ?side3 ?side4 A43.out).mono ?_); (case side1 => exact zC HR0_2); (case side2 => exact HC0_2.out); (case side3 => exact zC HR0_3); (case side4 => exact HC0_3.out); rintro e w49 ⟨rfl, hb⟩; replace HO_308002 := Aside0.mk (Kd.R_below (zR HO_308002) hb); replace HO_308003 := Aside0.mk (Kd.R_below (zR HO_308003) hb); replace BK305 := zKb BK305 hb; replace BK306 := zKb BK306 hb; replace BK307 := zKb BK307 hb; replace HB := zBb hb; (try clear hb); (try clear hb2); (try clear hk); (try clear hi); have hnb50 := NB307_306.out; have hnc50 := NB306_307.out; obtain ⟨hcz51_0, hcz51_1, hcz51_2, hcz51_3, hfz51_0, hfz51_1, hfz51_2, hfz51_3⟩ := blk4 BK307; obtain ⟨hcz52_0, hcz52_1, hcz52_2, hcz52_3, hfz52_0, hfz52_1, hfz52_2, hfz52_3⟩ := blk4 BK305; obtain ⟨Ao53, co53, eo53⟩ := Kd.R_slice HO_308002.out; subst eo53; obtain ⟨Ao54, co54, eo54⟩ := Kd.R_slice HO_308003.out; subst eo54) | ((with_reducible refine gate_callee (f := 107) rfl ?_); refine goesL_ (some 57) rfl rfl Tryd.func107 (by kernel_rfl) rfl #[.agg #[.int .i64 x308000_27, .int .i64 x308001_27, .slice Ao53 x308002_27.length co53, .slice Ao54 x308003_27.length co54], .bool false, .int .i64 (wrap64 ((wrap64 (a0_1 - 1)) - x4_1)), .int .i64 x5_2] rfl zM ?_; (with_reducible refine (spec_fiPut.calls kj27 x308000_27 x308001_27 _ _ x308002_27 _ _ x308003_27 false (wrap64 ((wrap64 (a0_1 - 1)) - x4_1)) x5_2 t318 t319 t320 t323 _ ?side1 ?side2 ?side3 ?side4 A45.out).mono ?_); (case side1 => exact zKr (Kd.R_reads' HO_308002.out).2.2); (case side2 => exact (Kd.R_reads' HO_308002.out).2.1); (case side3 => exact zKr (Kd.R_reads' HO_308003.out).2.2); (case side4 => exact (Kd.R_reads' HO_308003.out).2.1); rintro e w55 ⟨v321, v324, rfl, ho0, ho1, hb⟩; refine ⟨_, rfl, ?_⟩; have HO322 := Aside0.mk (Kd.R_lower (Kd.R_new' (Kd.R_new' ho0 (Kd.R_lt (zR HO_308002))) (Kd.R_lt (zR HO_308003))) (below_size zB)); have HO325 := Aside0.mk (Kd.R_lower (Kd.R_new' (Kd.R_new' ho1 (Kd.R_lt (zR HO_308002))) (Kd.R_lt (zR HO_308003))) (below_size zB)); replace HO_308002 := Aside0.mk (Kd.R_mono (Kd.R_told (Kd.R_told (Kd.R_old (zR HO_308002) hb) (Kd.R_base ho0)) (Kd.R_base ho1)) (fun _ h_ => h_.1)); replace HO_308003 := Aside0.mk (Kd.R_mono (Kd.R_told (Kd.R_told (Kd.R_old (zR HO_308003) hb) (Kd.R_base ho0)) (Kd.R_base ho1)) (fun _ h_ => h_.1)); replace BK305 := zKb BK305 hb; replace BK306 := zKb BK306 hb; replace BK307 := zKb BK307 hb; replace HB := zBb hb; (try clear hb); (try clear hb2); (try clear hk); (try clear hi); (try clear ho0); (try clear ho1); obtain ⟨hcz56_0, hcz56_1, hcz56_2, hcz56_3, hfz56_0, hfz56_1, hfz56_2, hfz56_3⟩ := blk4 BK307; obtain ⟨Ao57, co57, eo57⟩ := Kd.R_slice HO322.out; subst eo57; obtain ⟨Ao58, co58, eo58⟩ := Kd.R_slice HO325.out; subst eo58))
             go_roundg kj27
             case measure => have := HK1.out; have := HK2.out; have := HJ14.out; have := HJ27.out; omega
             case rel => exact ⟨(wrap64 (x5_2 + 1)), (t318), (t319), (t320), (t323), (.slice Ao57 t320.length co57), (.slice Ao58 t323.length co58), zA, H', ⟨by have := HK1.out; have := HK2.out; have := HJ14.out; have := HJ27.out; omega⟩, ⟨by (with_reducible repeat (first | apply Kd.R_alloc | apply Kd.R_drewN | apply Kd.R_drew)); exact Kd.R_mono (Kd.R_far (p := ⟨gb307, 3, none⟩) (Kd.R_far (p := ⟨gb307, 2, none⟩) (Kd.R_far (p := ⟨gb307, 1, none⟩) (Kd.R_far (p := ⟨gb307, 0, none⟩) (Kd.R_types HO322.out BK307.out (by decide)) (fun _ hk => hk.2) (.int .i64 t318)) (fun _ hk => hk.2) (.int .i64 t319)) (fun _ hk => hk.2) (.slice Ao57 t320.length co57)) (fun _ hk => hk.2) (.slice Ao58 t323.length co58)) (fun _ hk => hk.1.1.1)⟩, ⟨by (with_reducible repeat (first | apply Kd.R_alloc | apply Kd.R_drewN | apply Kd.R_drew)); exact Kd.R_mono (Kd.R_far (p := ⟨gb307, 3, none⟩) (Kd.R_far (p := ⟨gb307, 2, none⟩) (Kd.R_far (p := ⟨gb307, 1, none⟩) (Kd.R_far (p := ⟨gb307, 0, none⟩) (Kd.R_types HO325.out BK307.out (by decide)) (fun _ hk => hk.2) (.int .i64 t318)) (fun _ hk => hk.2) (.int .i64 t319)) (fun _ hk => hk.2) (.slice Ao57 t320.length co57)) (fun _ hk => hk.2) (.slice Ao58 t323.length co58)) (fun _ hk => hk.1.1.1)⟩, ⟨by (with_reducible repeat (first | refine blk_drewN ?_ _ | refine blk_drew ?_ | refine blk_alloc ?_ _)); refine blk_far ?_ NB305_307.out _; (with_reducible repeat (first | refine blk_drewN ?_ _ | refine blk_drew ?_ | refine blk_alloc ?_ _)); refine blk_far ?_ NB305_307.out _; (with_reducible repeat (first | refine blk_drewN ?_ _ | refine blk_drew ?_ | refine blk_alloc ?_ _)); refine blk_far ?_ NB305_307.out _; (with_reducible repeat (first | refine blk_drewN ?_ _ | refine blk_drew ?_ | refine blk_alloc ?_ _)); refine blk_far ?_ NB305_307.out _; (with_reducible repeat (first | refine blk_drewN ?_ _ | refine blk_drew ?_ | refine blk_alloc ?_ _)); exact BK305.out⟩, ⟨by (with_reducible repeat (first | refine blk_drewN ?_ _ | refine blk_drew ?_ | refine blk_alloc ?_ _)); refine blk_far ?_ NB306_307.out _; (with_reducible repeat (first | refine blk_drewN ?_ _ | refine blk_drew ?_ | refine blk_alloc ?_ _)); refine blk_far ?_ NB306_307.out _; (with_reducible repeat (first | refine blk_drewN ?_ _ | refine blk_drew ?_ | refine blk_alloc ?_ _)); refine blk_far ?_ NB306_307.out _; (with_reducible repeat (first | refine blk_drewN ?_ _ | refine blk_drew ?_ | refine blk_alloc ?_ _)); refine blk_far ?_ NB306_307.out _; (with_reducible repeat (first | refine blk_drewN ?_ _ | refine blk_drew ?_ | refine blk_alloc ?_ _)); exact BK306.out⟩, ⟨by (with_reducible repeat (first | refine blk_drewN ?_ _ | refine blk_drew ?_ | refine blk_alloc ?_ _)); refine blk_put (cs := #[.int .i64 t318, .int .i64 t319, .slice Ao57 t320.length co57, .slice Ao54 x308003_27.length co54]) ?_ 3 _ rfl; (with_reducible repeat (first | refine blk_drewN ?_ _ | refine blk_drew ?_ | refine blk_alloc ?_ _)); refine blk_put (cs := #[.int .i64 t318, .int .i64 t319, .slice Ao53 x308002_27.length co53, .slice Ao54 x308003_27.length co54]) ?_ 2 _ rfl; (with_reducible repeat (first | refine blk_drewN ?_ _ | refine blk_drew ?_ | refine blk_alloc ?_ _)); refine blk_put (cs := #[.int .i64 t318, .int .i64 x308001_27, .slice Ao53 x308002_27.length co53, .slice Ao54 x308003_27.length co54]) ?_ 1 _ rfl; (with_reducible repeat (first | refine blk_drewN ?_ _ | refine blk_drew ?_ | refine blk_alloc ?_ _)); refine blk_put (cs := #[.int .i64 x308000_27, .int .i64 x308001_27, .slice Ao53 x308002_27.length co53, .slice Ao54 x308003_27.length co54]) ?_ 0 _ rfl; (with_reducible repeat (first | refine blk_drewN ?_ _ | refine blk_drew ?_ | refine blk_alloc ?_ _)); exact BK307.out⟩, ⟨zB⟩⟩
            ·replace c44 := Bool.eq_false_iff.mpr c44
             subst c44
             have H1 : (spec_fiTurn.l1 kj27 x4_1 (wrap64 (x5_2 + 1)) a0_0 a0_1 l0_2 l0_3 x308000_27 x308001_27 x308002_27 x308003_27) = some (r1, r2, r3, r4) := by rw [if_neg (show ¬ (false = true) by decide)] at H; exact H
             clear H
             have H := H1
             clear H1
             have H' := Aside0.mk H
             clear H
             have hnb59 := NB305_306.out
             have hnc59 := NB306_305.out
             have hnb60 := NB305_307.out
             have hnc60 := NB307_305.out
             obtain ⟨hcz61_0, hcz61_1, hcz61_2, hcz61_3, hfz61_0, hfz61_1, hfz61_2, hfz61_3⟩ := blk4 BK305
             go_wp2_with (first | (go_at_call 106; (with_reducible refine (spec_fiHas.calls kj27 a0_0 a0_1 _ _ l0_2 _ _ l0_3 true x5_2 x4_1 false _ ?side1 ?side2 ?side3 ?side4 A43.out).mono ?_); (case side1 => exact zC HR0_2); (case side2 => exact HC0_2.out); (case side3 => exact zC HR0_3); (case side4 => exact HC0_3.out); rintro e w62 ⟨rfl, hb⟩; replace HO_308002 := Aside0.mk (Kd.R_below (zR HO_308002) hb); replace HO_308003 := Aside0.mk (Kd.R_below (zR HO_308003) hb); replace BK305 := zKb BK305 hb; replace BK306 := zKb BK306 hb; replace BK307 := zKb BK307 hb; replace HB := zBb hb; (try clear hb); (try clear hb2); (try clear hk); (try clear hi)))
             go_roundg kj27
             case measure => have := HK1.out; have := HK2.out; have := HJ14.out; have := HJ27.out; omega
             case rel => exact ⟨(wrap64 (x5_2 + 1)), (x308000_27), (x308001_27), (x308002_27), (x308003_27), (u308002), (u308003), zA, H', ⟨by have := HK1.out; have := HK2.out; have := HJ14.out; have := HJ27.out; omega⟩, ⟨zR HO_308002⟩, ⟨zR HO_308003⟩, ⟨zK BK305⟩, ⟨zK BK306⟩, ⟨zK BK307⟩, ⟨zB⟩⟩
           ·rw [if_neg c42] at H
            have c42b0 : decide (x4_1 < a0_1) = false := decide_eq_false c42
            clear c42
            have H' := Aside0.mk H
            clear H
            have hnb63 := NB305_306.out
            have hnc63 := NB306_305.out
            have hnb64 := NB305_307.out
            have hnc64 := NB307_305.out
            obtain ⟨hcz65_0, hcz65_1, hcz65_2, hcz65_3, hfz65_0, hfz65_1, hfz65_2, hfz65_3⟩ := blk4 BK305
            go_wp2
            go_roundg kj27
            case measure => have := HK1.out; have := HK2.out; have := HJ14.out; have := HJ27.out; omega
            case rel => exact ⟨(wrap64 (x5_2 + 1)), (x308000_27), (x308001_27), (x308002_27), (x308003_27), (u308002), (u308003), zA, H', ⟨by have := HK1.out; have := HK2.out; have := HJ14.out; have := HJ27.out; omega⟩, ⟨zR HO_308002⟩, ⟨zR HO_308003⟩, ⟨zK BK305⟩, ⟨zK BK306⟩, ⟨zK BK307⟩, ⟨zB⟩⟩
      ·rw [if_neg c14] at H
       have c14b0 : decide (x5_2 ≤ a0_0) = false := decide_eq_false c14
       clear c14
       have H' := Aside0.mk H
       clear H
       have hnb66 := NB305_306.out
       have hnc66 := NB306_305.out
       have hnb67 := NB305_307.out
       have hnc67 := NB307_305.out
       obtain ⟨hcz68_0, hcz68_1, hcz68_2, hcz68_3, hfz68_0, hfz68_1, hfz68_2, hfz68_3⟩ := blk4 BK305
       go_wp2
       go_roundg k2
       case measure => have := HK1.out; have := HK2.out; omega
       case rel => exact ⟨(wrap64 (x4_1 + 1)), (x308000_2), (x308001_2), (x308002_2), (x308003_2), (u308002), (u308003), zA, H', ⟨by have := HK1.out; have := HK2.out; omega⟩, ⟨zR HO_308002⟩, ⟨zR HO_308003⟩, ⟨zK BK305⟩, ⟨zK BK306⟩, ⟨zK BK307⟩, ⟨zB⟩⟩
   ·rw [if_neg c10] at H
    have c10b0 : decide (x4_1 ≤ a0_1) = false := decide_eq_false c10
    clear c10
    simp only [Option.some.injEq, Prod.mk.injEq] at H
    obtain ⟨rfl, rfl, rfl, rfl⟩ := H
    have hnb69 := NB305_306.out
    have hnc69 := NB306_305.out
    have hnb70 := NB305_307.out
    have hnc70 := NB307_305.out
    obtain ⟨hcz71_0, hcz71_1, hcz71_2, hcz71_3, hfz71_0, hfz71_1, hfz71_2, hfz71_3⟩ := blk4 BK305
    have hnb72 := NB307_306.out
    have hnc72 := NB306_307.out
    obtain ⟨hcz73_0, hcz73_1, hcz73_2, hcz73_3, hfz73_0, hfz73_1, hfz73_2, hfz73_3⟩ := blk4 BK307
    obtain ⟨hcz74_0, hcz74_1, hcz74_2, hcz74_3, hfz74_0, hfz74_1, hfz74_2, hfz74_3⟩ := blk4 BK306
    obtain ⟨Ao75, co75, eo75⟩ := Kd.R_slice HO_308002.out
    subst eo75
    obtain ⟨Ao76, co76, eo76⟩ := Kd.R_slice HO_308003.out
    subst eo76
    go_wp2
    refine bodyPost_ret (results_cell_row rfl _ _ gb306 26 #[.int .i64 x308000_1, .int .i64 x308001_1, .slice Ao75 x308002_1.length co75, .slice Ao76 x308003_1.length co76] (0, 0) _ rfl (by (with_reducible repeat (first | refine blk_drewN ?_ _ | refine blk_drew ?_ | refine blk_alloc ?_ _)); refine blk_put (cs := #[.int .i64 x308000_1, .int .i64 x308001_1, .slice Ao75 x308002_1.length co75, .slice none 0 0]) ?_ 3 _ rfl; (with_reducible repeat (first | refine blk_drewN ?_ _ | refine blk_drew ?_ | refine blk_alloc ?_ _)); refine blk_put (cs := #[.int .i64 x308000_1, .int .i64 x308001_1, .slice none 0 0, .slice none 0 0]) ?_ 2 _ rfl; (with_reducible repeat (first | refine blk_drewN ?_ _ | refine blk_drew ?_ | refine blk_alloc ?_ _)); refine blk_put (cs := #[.int .i64 x308000_1, .int .i64 0, .slice none 0 0, .slice none 0 0]) ?_ 1 _ rfl; (with_reducible repeat (first | refine blk_drewN ?_ _ | refine blk_drew ?_ | refine blk_alloc ?_ _)); refine blk_put (cs := #[.int .i64 0, .int .i64 0, .slice none 0 0, .slice none 0 0]) ?_ 0 _ rfl; (with_reducible repeat (first | refine blk_drewN ?_ _ | refine blk_drew ?_ | refine blk_alloc ?_ _)); exact BK306.out) Tryd.underlying26 rfl (by kernel_rfl)) rfl ?_
    exact ⟨_, _, zE, by (with_reducible repeat (first | apply Kd.R_alloc | apply Kd.R_drewN | apply Kd.R_drew)); exact zF4 HO_308002 BK306, by (with_reducible repeat (first | apply Kd.R_alloc | apply Kd.R_drewN | apply Kd.R_drew)); exact zF4 HO_308003 BK306, zB⟩

/-! ### spec_pzImages: function 41 -/
set_option maxHeartbeats 8000000 in
set_option maxRecDepth 100000 in
theorem spec_pzImages.calls (k : Nat) (a0_0 : Int) (a0_1 : Int) (P0_2_ : Nat → Prop) (A0_2 : Option Addr) (c0_2 : Nat) (l0_2 : List Int) (P0_3_ : Nat → Prop) (A0_3 : Option Addr) (c0_3 : Nat) (l0_3 : List Int) (r : List ByteArray) (w : World) (hs0_2 : Kd.V (Kd.int .i64) 3 w w.heap.size (fun k_ => P0_2_ k_) (.slice A0_2 l0_2.length c0_2) l0_2) (hs0_3 : Kd.V (Kd.int .i64) 3 w w.heap.size (fun k_ => P0_3_ k_) (.slice A0_3 l0_3.length c0_3) l0_3) (h : spec_pzImages.f k a0_0 a0_1 l0_2 l0_3 = some r) :
  Calls Tryd.prog 41 #[.agg #[.int .i64 a0_0, .int .i64 a0_1, .slice A0_2 l0_2.length c0_2, .slice A0_3 l0_3.length c0_3]] w fun e w' => ∃ v0_ : Value, e = .returned (v0_) ∧ Kd.R Kd.string 9 w' w.heap.size (fun k_ => (w.heap.size ≤ k_)) v0_ r ∧ Below w.heap.size w w' := by
 have hu26 := Tryd.underlying26
 have HO0_2 := Aside0.mk (show Kd.V (Kd.int .i64) 3 w w.heap.size (fun k_ => ((P0_2_ k_ ∨ P0_3_ k_) ∨ w.heap.size ≤ k_)) (.slice A0_2 l0_2.length c0_2) l0_2 from Kd.V_mono hs0_2 (fun k_ hk => .inl (.inl hk)))
 have HO0_3 := Aside0.mk (show Kd.V (Kd.int .i64) 3 w w.heap.size (fun k_ => ((P0_2_ k_ ∨ P0_3_ k_) ∨ w.heap.size ≤ k_)) (.slice A0_3 l0_3.length c0_3) l0_3 from Kd.V_mono hs0_3 (fun k_ hk => .inl (.inr hk)))
 have HB := Aside0.mk (Below.refl w.heap.size w)
 have H : ((spec_fiMirror.f k a0_0 a0_1 l0_2 l0_3).bind fun bt327 => ((some (([(⟨a0_0, a0_1, l0_2, l0_3⟩ : S26), (⟨bt327.1, bt327.2.1, bt327.2.2.1, bt327.2.2.2⟩ : S26)] : List (S26)) : List (S26))).bind fun y335 => (spec_pzImages.l0 k ([] : List ByteArray) y335 (y335.length : Int) 0))) = some r := h
 clear h
 replace H := Option.bind_eq_some_iff.mp H
 obtain ⟨⟨t327, t328, t329, t332⟩, A20, H⟩ := H
 replace H : ((some (([(⟨a0_0, a0_1, l0_2, l0_3⟩ : S26), (⟨t327, t328, t329, t332⟩ : S26)] : List (S26)) : List (S26))).bind fun y335 => (spec_pzImages.l0 k ([] : List ByteArray) y335 (y335.length : Int) 0)) = some r := H
 have A2 := Aside0.mk A20
 clear A20
 obtain ⟨y335, hy335⟩ : ∃ y_ : List (S26), y_ = (([(⟨a0_0, a0_1, l0_2, l0_3⟩ : S26), (⟨t327, t328, t329, t332⟩ : S26)] : List (S26))) := ⟨_, rfl⟩
 replace H : (spec_pzImages.l0 k ([] : List ByteArray) y335 (y335.length : Int) 0) = some r := by first | (rw [hy335]; with_reducible exact H) | (have H2_ := (Option.bind_some _ _).symm.trans H; rw [hy335]; with_reducible exact H2_) | (have H2_ := (Option.bind_some _ _).symm.trans H; with_reducible exact H2_) | with_reducible exact H | (rw [hy335]; exact H) | exact H
 have Ny335 := Aside0.mk hy335
 clear hy335
 have H' := Aside0.mk H
 clear H
 go_enter Tryd.func41, Tryd.ntmps41
 try go_wp2_with (first | ((with_reducible refine gate_dst (N := 1) rfl ?_); refine zbx 1 #[.int .i64 a0_0, .int .i64 a0_1, .slice A0_2 l0_2.length c0_2, .slice A0_3 l0_3.length c0_3] 26 ?_; intro gb326 hg w3 hbox hb; replace HO0_2 := Aside0.mk (Kd.V_below (Kd.V_elderB (by (with_reducible repeat (first | apply Kd.V_alloc | apply Kd.V_drewN | apply Kd.V_drew)); exact HO0_2.out) gb326 (Nat.le_of_eq hg.symm)) hb); replace HO0_3 := Aside0.mk (Kd.V_below (Kd.V_elderB (by (with_reducible repeat (first | apply Kd.V_alloc | apply Kd.V_drewN | apply Kd.V_drew)); exact HO0_3.out) gb326 (Nat.le_of_eq hg.symm)) hb); have BK326 := Aside0.mk (hbox); have GW326 := zGe hg; have GE326 := zGe hg; replace HB := zBb hb; clear hb hbox hg))
 replace HO0_2 := Aside0.mk (Kd.V_drew HO0_2.out)
 replace HO0_3 := Aside0.mk (Kd.V_drew HO0_3.out)
 replace BK326 := Aside0.mk (blk_drew BK326.out)
 replace HB := Aside0.mk (below_drew1 HB.out)
 refine start_ (n := 6) (S := fun w' => w'.cell? ⟨gb326, 0, none⟩ = some (.int .i64 a0_0) ∧ w'.cell? ⟨gb326, 1, none⟩ = some (.int .i64 a0_1) ∧ w'.cell? ⟨gb326, 2, none⟩ = some (.slice A0_2 l0_2.length c0_2) ∧ w'.cell? ⟨gb326, 3, none⟩ = some (.slice A0_3 l0_3.length c0_3)) (ds := []) (fl 6 0) (by kernel_rfl) rfl rfl zQ (fun hHeld => ?_)
 generalize w3.drew = w4 at HO0_2 HO0_3 BK326 HB hHeld ⊢
 refine zpu 5 (some 12) (fl 6 32) ?_
 refine ztk 0 (some 7) (fl 6 33) hHeld ?_
 refine ztk 1 (some 8) (fl 6 35) hHeld ?_
 refine zone 2 (some 9) (fl 6 39) (fun K hK => ?_)
 refine zgo Tryd.func67 #[.agg #[.int .i64 a0_0, .int .i64 a0_1, .slice A0_2 l0_2.length c0_2, .slice A0_3 l0_3.length c0_3]] ?_
 with_reducible refine (spec_fiMirror.calls k a0_0 a0_1 _ _ l0_2 _ _ l0_3 t327 t328 t329 t332 _ ?side1 ?side2 ?side3 ?side4 A2.out).mono ?_
 (case side1 => repeat (first | exact (Kd.V_reads' HO0_2.out).2.2 | (with_reducible refine Kd.C_alloc ?_ _) | (with_reducible refine Kd.C_drewN ?_ _) | (with_reducible refine Kd.C_drew ?_)))
 (case side2 => exact (Kd.V_reads' HO0_2.out).2.1)
 (case side3 => repeat (first | exact (Kd.V_reads' HO0_3.out).2.2 | (with_reducible refine Kd.C_alloc ?_ _) | (with_reducible refine Kd.C_drewN ?_ _) | (with_reducible refine Kd.C_drew ?_)))
 (case side4 => exact (Kd.V_reads' HO0_3.out).2.1)
 rintro e w5 ⟨v330, v333, rfl, ho0, ho1, hb⟩
 refine ⟨_, rfl, ?_⟩
 replace HO0_2 := Aside0.mk (Kd.V_mono (Kd.V_told (Kd.V_told (Kd.V_old (by (with_reducible repeat (first | apply Kd.V_alloc | apply Kd.V_drewN | apply Kd.V_drew)); exact HO0_2.out) hb) (Kd.R_base ho0)) (Kd.R_base ho1)) (fun _ h_ => h_.1))
 replace HO0_3 := Aside0.mk (Kd.V_mono (Kd.V_told (Kd.V_told (Kd.V_old (by (with_reducible repeat (first | apply Kd.V_alloc | apply Kd.V_drewN | apply Kd.V_drew)); exact HO0_3.out) hb) (Kd.R_base ho0)) (Kd.R_base ho1)) (fun _ h_ => h_.1))
 have HO331 := Aside0.mk (Kd.R_lower (Kd.R_newM (M := fun k_ => (w.heap.size ≤ k_)) ho0 (below_size zB) (fun k_ h_ => h_)) (below_size zB))
 have HO334 := Aside0.mk (Kd.R_lower (Kd.R_newM (M := fun k_ => (w.heap.size ≤ k_)) ho1 (below_size zB) (fun k_ h_ => h_)) (below_size zB))
 replace BK326 := zKb BK326 hb
 replace HB := zBb hb
 (try clear hb)
 (try clear hb2)
 (try clear hk)
 (try clear hi)
 (try clear ho0)
 (try clear ho1)
 obtain ⟨Ao6, co6, eo6⟩ := Kd.R_slice HO331.out
 (first | subst eo6 | (injection eo6 with f1_ f2_ f3_; have f4_ := f1_.symm; have f5_ := f3_.symm; clear f1_ f2_ f3_; subst f4_; subst f5_))
 obtain ⟨Ao7, co7, eo7⟩ := Kd.R_slice HO334.out
 (first | subst eo7 | (injection eo7 with f1_ f2_ f3_; have f4_ := f1_.symm; have f5_ := f3_.symm; clear f1_ f2_ f3_; subst f4_; subst f5_))
 refine hK.out _ _ zQ (fun hHeld => ?_)
 clear hK K
 refine znm ?_
 refine zone 3 (some 10) (fl 6 47) (fun K hK => ?_)
 refine Kd.N_lit_step k26 _ 26 ?hg (N' := 10) ?hd (xs := ([(⟨a0_0, a0_1, l0_2, l0_3⟩ : S26), (⟨t327, t328, t329, t332⟩ : S26)] : List (S26))) (inner := [.int .i64 a0_0, .int .i64 a0_1, .slice A0_2 l0_2.length c0_2, .slice A0_3 l0_3.length c0_3, .int .i64 t327, .int .i64 t328, .slice Ao6 t329.length co6, .slice Ao7 t332.length co7]) (ok := (fun k_ => ((P0_2_ k_ ∨ P0_3_ k_) ∨ w.heap.size ≤ k_) ∧ k_ ≠ gb326)) (okp := (fun k_ => ((P0_2_ k_ ∨ P0_3_ k_) ∨ w.heap.size ≤ k_) ∧ k_ ≠ gb326)) ?hr ?hp (fun _ hk => hk) ((show ∀ k_, w5.heap.size ≤ k_ → (fun k_ => ((P0_2_ k_ ∨ P0_3_ k_) ∨ w.heap.size ≤ k_) ∧ k_ ≠ gb326) k_ from fun k_ hk => ⟨(.inr (Nat.le_trans (below_size zB) hk)), Kd.freshB (g := gb326) (o := .cells #[.int .i64 a0_0, .int .i64 a0_1, .slice A0_2 l0_2.length c0_2, .slice A0_3 l0_3.length c0_3] 26 (0, 0)) (zK BK326) k_ hk⟩) _ (Nat.le_refl _)) (Below.refl _ _) (Nat.le_refl _) (by simp) ?_; (case hd => rfl); (case hg => rfl); (case hr => first | (go_simp; done) | (go_simp; rfl)); (case hp => exact (Reps.c4 (show Kd.FK k26 _ _ (⟨a0_0, a0_1, l0_2, l0_3⟩ : S26) [.int .i64 a0_0, .int .i64 a0_1, .slice A0_2 l0_2.length c0_2, .slice A0_3 l0_3.length c0_3] from (k26_mkF _ _ (⟨a0_0, a0_1, l0_2, l0_3⟩ : S26) (Kd.V_reads' (Kd.V_mono (ok' := (fun k_ => ((P0_2_ k_ ∨ P0_3_ k_) ∨ w.heap.size ≤ k_) ∧ k_ ≠ gb326)) (HO0_2.out) (fun k_ hk => ⟨hk.1.1.1, hk.1.1.2⟩))).2.1 (Kd.V_F (Kd.V_mono (ok' := (fun k_ => ((P0_2_ k_ ∨ P0_3_ k_) ∨ w.heap.size ≤ k_) ∧ k_ ≠ gb326)) (HO0_2.out) (fun k_ hk => ⟨hk.1.1.1, hk.1.1.2⟩))) (Kd.V_reads' (Kd.V_mono (ok' := (fun k_ => ((P0_2_ k_ ∨ P0_3_ k_) ∨ w.heap.size ≤ k_) ∧ k_ ≠ gb326)) (HO0_3.out) (fun k_ hk => ⟨hk.1.1.1, hk.1.1.2⟩))).2.1 (Kd.V_F (Kd.V_mono (ok' := (fun k_ => ((P0_2_ k_ ∨ P0_3_ k_) ∨ w.heap.size ≤ k_) ∧ k_ ≠ gb326)) (HO0_3.out) (fun k_ hk => ⟨hk.1.1.1, hk.1.1.2⟩))))) (Reps.c4 (show Kd.FK k26 _ _ (⟨t327, t328, t329, t332⟩ : S26) [.int .i64 t327, .int .i64 t328, .slice Ao6 t329.length co6, .slice Ao7 t332.length co7] from (k26_mkF _ _ (⟨t327, t328, t329, t332⟩ : S26) (Kd.R_reads' (Kd.R_mono (ok' := (fun k_ => ((P0_2_ k_ ∨ P0_3_ k_) ∨ w.heap.size ≤ k_) ∧ k_ ≠ gb326)) (Kd.R_types (HO331.out) BK326.out (by decide)) (fun k_ hk => ⟨(.inr (hk.1.1)), hk.2⟩))).2.1 (Kd.R_F (Kd.R_mono (ok' := (fun k_ => ((P0_2_ k_ ∨ P0_3_ k_) ∨ w.heap.size ≤ k_) ∧ k_ ≠ gb326)) (Kd.R_types (HO331.out) BK326.out (by decide)) (fun k_ hk => ⟨(.inr (hk.1.1)), hk.2⟩))) (Kd.R_reads' (Kd.R_mono (ok' := (fun k_ => ((P0_2_ k_ ∨ P0_3_ k_) ∨ w.heap.size ≤ k_) ∧ k_ ≠ gb326)) (Kd.R_types (HO334.out) BK326.out (by decide)) (fun k_ hk => ⟨(.inr (hk.1.1)), hk.2⟩))).2.1 (Kd.R_F (Kd.R_mono (ok' := (fun k_ => ((P0_2_ k_ ∨ P0_3_ k_) ∨ w.heap.size ≤ k_) ∧ k_ ≠ gb326)) (Kd.R_types (HO334.out) BK326.out (by decide)) (fun k_ hk => ⟨(.inr (hk.1.1)), hk.2⟩))))) (Reps.none _ _))))
 intro v336 w8 ho9 hb hg_ hnew_
 clear hg_ hnew_
 (first | rw [← Ny335.out] at ho9 | (simp only [Int.reduceToNat] at ho9; rw [← Ny335.out] at ho9))
 have n0_ := Aside0.mk (Kd.V_elder' (by (with_reducible repeat (first | apply Kd.V_alloc | apply Kd.V_drewN | apply Kd.V_drew)); exact HO0_2.out) (Kd.N_base ho9) hb)
 have n1_ := Aside0.mk (Kd.V_elder' (by (with_reducible repeat (first | apply Kd.V_alloc | apply Kd.V_drewN | apply Kd.V_drew)); exact HO0_3.out) (Kd.N_base ho9) hb)
 have n2_ := Aside0.mk (Kd.N_lower ho9 (below_size zB))
 have n3_ := zKb BK326 hb
 have n4_ := zBb hb
 clear HO0_2
 clear HO0_3
 clear BK326
 clear HB
 clear HO331
 clear HO334
 have HO0_2 := n0_
 have HO0_3 := n1_
 have HO337 := n2_
 have BK326 := n3_
 have HB := n4_
 clear n0_ n1_ n2_ n3_ n4_
 clear hb ho9
 obtain ⟨Ao10, co10, eo10⟩ := Kd.N_slice HO337.out
 (first | subst eo10 | (injection eo10 with f1_ f2_ f3_; have f4_ := f1_.symm; have f5_ := f3_.symm; clear f1_ f2_ f3_; subst f4_; subst f5_))
 refine hK.out _ _ zQ (fun hHeld => ?_)
 clear hK K
 refine znm ?_
 refine zpu 4 (some 11) (fl 6 63) ?_
 refine done_ (by kernel_rfl) ?_
 try go_wp2
 go_loopg [3, 12] k (fun kq v3 v12 w' => ∃ (x3_1 : List ByteArray) (x12_1 : Int), v12 = .int .i64 x12_1 ∧ Aside0 (spec_pzImages.l0 kq x3_1 y335 (y335.length : Int) x12_1 = some r) ∧ Aside0 (kq ≤ k) ∧ Aside0 (Kd.R Kd.string 9 w' w.heap.size (fun k_ => (w.heap.size ≤ k_)) v3 x3_1) ∧ Aside0 (Kd.N k26 26 w' w.heap.size (fun k_ => ((P0_2_ k_ ∨ P0_3_ k_) ∨ w.heap.size ≤ k_) ∧ some k_ ≠ (v3 : Value).ownBlock ∧ k_ ≠ gb326) (.slice Ao10 y335.length co10) y335) ∧ Aside0 (Kd.V (Kd.int .i64) 3 w' w.heap.size (fun k_ => ((P0_2_ k_ ∨ P0_3_ k_) ∨ w.heap.size ≤ k_) ∧ some k_ ≠ (v3 : Value).ownBlock ∧ some k_ ≠ ((.slice Ao10 y335.length co10) : Value).ownBlock ∧ k_ ≠ gb326) (.slice A0_2 l0_2.length c0_2) l0_2) ∧ Aside0 (Kd.V (Kd.int .i64) 3 w' w.heap.size (fun k_ => ((P0_2_ k_ ∨ P0_3_ k_) ∨ w.heap.size ≤ k_) ∧ some k_ ≠ (v3 : Value).ownBlock ∧ some k_ ≠ ((.slice Ao10 y335.length co10) : Value).ownBlock ∧ k_ ≠ gb326) (.slice A0_3 l0_3.length c0_3) l0_3) ∧ Aside0 (w'.heap[gb326]? = some (.cells #[.int .i64 a0_0, .int .i64 a0_1, (.slice A0_2 l0_2.length c0_2), (.slice A0_3 l0_3.length c0_3)] 26 (0, 0))) ∧ Aside0 (Below w.heap.size w w'))
 case atStart => exact ⟨(([] : List ByteArray)), (0), zA, H', ⟨Nat.le_refl _⟩, ⟨by first | exact Kd.R_nil _ _ _ _ _ | exact Kd.N_nil _ _ _ _ _ | exact Kd.V_nil _ _ _ _ _ | exact Kd.Q_nil _ _ _ _ _ | exact Kd.S_nil _ _ _ _ _⟩, ⟨by (with_reducible repeat (first | apply Kd.N_alloc | apply Kd.N_drewN | apply Kd.N_drew)); exact Kd.N_mono HO337.out (fun _ hk => ⟨hk.1, ⟨(by simp [Value.ownBlock]), hk.2⟩⟩)⟩, ⟨by (with_reducible repeat (first | apply Kd.V_alloc | apply Kd.V_drewN | apply Kd.V_drew)); exact Kd.V_mono HO0_2.out (fun _ hk => ⟨hk.1.1.1.1, ⟨(by simp [Value.ownBlock]), ⟨hk.2, hk.1.1.1.2⟩⟩⟩)⟩, ⟨by (with_reducible repeat (first | apply Kd.V_alloc | apply Kd.V_drewN | apply Kd.V_drew)); exact Kd.V_mono HO0_3.out (fun _ hk => ⟨hk.1.1.1.1, ⟨(by simp [Value.ownBlock]), ⟨hk.2, hk.1.1.1.2⟩⟩⟩)⟩, ⟨zK BK326⟩, ⟨zB⟩⟩
 case round =>
  clear H'
  (try clear p2); (try clear c4); (try clear c6)
  obtain ⟨x3_1, x12_1, rfl, HA, HK1, HO_3, HO_10, HO_327002, HO_327003, BK326, HB⟩ := hrel
  cases gk with
  | zero => exact absurd HA.out (by simp [spec_pzImages.l0])
  | succ k1 =>
   have H := HA.out
   clear HA
   simp only [spec_pzImages.l0] at H
   by_cases c11 : x12_1 < (y335.length : Int)
   ·rw [if_pos c11] at H
    have c11b0 : decide (x12_1 < (y335.length : Int)) = true := decide_eq_true c11
    clear c11
    by_cases c12 : 0 ≤ x12_1
    ·rw [if_pos c12] at H
     have c12b0 : decide (0 ≤ x12_1) = true := decide_eq_true c12
     clear c12
     by_cases c13 : x12_1 < (y335.length : Int)
     ·rw [if_pos c13] at H
      have c13b0 : decide (x12_1 < (y335.length : Int)) = true := decide_eq_true c13
      clear c13
      have H' := Aside0.mk H
      clear H
      have p338 : 0 ≤ (x12_1 : Int) := of_decide_eq_true (by assumption)
      have q338 : x12_1 < (y335.length : Int) := of_decide_eq_true (by assumption)
      obtain ⟨ad338, A338_2, c338_2, A338_3, c338_3, e338, hx338_0, hx338_1, hx338_2, hx338_3, hl338_2, hi338_2, hl338_3, hi338_3⟩ := at_T26 (Kd.N_reads' HO_10.out).2.2 x12_1 p338 q338
      cases e338
      obtain ⟨ce338, hce338, hMe338, hcc338⟩ := Kd.N_get HO_10.out z26 x12_1 p338 (by first | exact q338 | exact of_decide_eq_true (by assumption) | (have e_ := (Kd.N_reads' HO_10.out).1; omega))
      obtain ⟨ua338_2, uc338_2, ua338_3, uc338_3, rfl, ul338_2, ge338_2, ul338_3, ge338_3⟩ := k26_openF hMe338
      have hv338_2 := hcc338 2 _ rfl
      rw [add_field _ _ 2 (by omega)] at hv338_2
      replace hv338_2 := Option.some.inj (hv338_2.symm.trans hx338_2)
      injection hv338_2 with hva_ hvn_ hvc_
      rw [hva_] at ge338_2
      rw [hvc_] at ul338_2
      have HL338_2 := Aside0.mk (show Kd.V (Kd.int .i64) 3 _ w.heap.size _ _ ((rd_T26 y335 x12_1).f2) from Kd.V_mk ul338_2 ge338_2)
      clear hva_ hvn_ hvc_ ge338_2 ul338_2
      have hv338_3 := hcc338 3 _ rfl
      rw [add_field _ _ 3 (by omega)] at hv338_3
      replace hv338_3 := Option.some.inj (hv338_3.symm.trans hx338_3)
      injection hv338_3 with hva_ hvn_ hvc_
      rw [hva_] at ge338_3
      rw [hvc_] at ul338_3
      have HL338_3 := Aside0.mk (show Kd.V (Kd.int .i64) 3 _ w.heap.size _ _ ((rd_T26 y335 x12_1).f3) from Kd.V_mk ul338_3 ge338_3)
      clear hva_ hvn_ hvc_ ge338_3 ul338_3
      clear hcc338 hce338
      have HR338_2 := Aside0.mk hi338_2
      have HC338_2 := Aside0.mk hl338_2
      clear hi338_2 hl338_2
      have HR338_3 := Aside0.mk hi338_3
      have HC338_3 := Aside0.mk hl338_3
      clear hi338_3 hl338_3
      replace p338 := eq_true p338
      replace q338 := eq_true q338
      go_wp2_with (first | ((with_reducible refine gate_dst (N := 5) rfl ?_); refine zbx 5 #[.int .i64 0, .int .i64 0, .slice none 0 0, .slice none 0 0] 26 ?_; intro gb339 hg w14 hbox hb; replace HO_3 := Aside0.mk (Kd.R_below (zR HO_3) hb); replace HO_10 := Aside0.mk (Kd.N_below (Kd.N_elderB (by (with_reducible repeat (first | apply Kd.N_alloc | apply Kd.N_drewN | apply Kd.N_drew)); exact HO_10.out) gb339 (Nat.le_of_eq hg.symm)) hb); replace HO_327002 := Aside0.mk (Kd.V_below (Kd.V_elderB (by (with_reducible repeat (first | apply Kd.V_alloc | apply Kd.V_drewN | apply Kd.V_drew)); exact HO_327002.out) gb339 (Nat.le_of_eq hg.symm)) hb); replace HO_327003 := Aside0.mk (Kd.V_below (Kd.V_elderB (by (with_reducible repeat (first | apply Kd.V_alloc | apply Kd.V_drewN | apply Kd.V_drew)); exact HO_327003.out) gb339 (Nat.le_of_eq hg.symm)) hb); replace HL338_2 := Aside0.mk (Kd.V_below (Kd.V_elderB (by (with_reducible repeat (first | apply Kd.V_alloc | apply Kd.V_drewN | apply Kd.V_drew)); exact HL338_2.out) gb339 (Nat.le_of_eq hg.symm)) hb); replace HL338_3 := Aside0.mk (Kd.V_below (Kd.V_elderB (by (with_reducible repeat (first | apply Kd.V_alloc | apply Kd.V_drewN | apply Kd.V_drew)); exact HL338_3.out) gb339 (Nat.le_of_eq hg.symm)) hb); replace HR338_2 := Aside0.mk (Kd.C_below (by repeat (first | (with_reducible exact HR338_2.out) | (with_reducible refine Kd.C_alloc ?_ _) | (with_reducible refine Kd.C_drewN ?_ _) | (with_reducible refine Kd.C_drew ?_) | exact HR338_2.out)) hb); replace HR338_3 := Aside0.mk (Kd.C_below (by repeat (first | (with_reducible exact HR338_3.out) | (with_reducible refine Kd.C_alloc ?_ _) | (with_reducible refine Kd.C_drewN ?_ _) | (with_reducible refine Kd.C_drew ?_) | exact HR338_3.out)) hb); have BK339 := Aside0.mk (hbox); have GW339 := zGe hg; have GE339 := zGe hg; have NB326_339 := zNl BK326 hg; have NB339_326 := zNg BK326 hg; replace BK326 := zKb BK326 hb; replace HB := zBb hb; clear hb hbox hg; have hnb15 := NB339_326.out; have hnc15 := NB326_339.out; obtain ⟨hcz16_0, hcz16_1, hcz16_2, hcz16_3, hfz16_0, hfz16_1, hfz16_2, hfz16_3⟩ := blk4 BK339))
      go_loopg [3, 6] k1 (fun kq v3 v6 w' => ∃ (x3_2 : List ByteArray) (x6_2 : Int) (x340000_2 : Int) (x340001_2 : Int) (x340002_2 : List Int) (x340003_2 : List Int) (u340002 : Value) (u340003 : Value), v6 = .int .i64 x6_2 ∧ Aside0 (spec_pzImages.l1 kq x3_2 x6_2 y335 (y335.length : Int) x12_1 x340000_2 x340001_2 x340002_2 x340003_2 = some r) ∧ Aside0 (kq ≤ k1) ∧ Aside0 (Kd.R Kd.string 9 w' w.heap.size (fun k_ => (w.heap.size ≤ k_)) v3 x3_2) ∧ Aside0 (Kd.N k26 26 w' w.heap.size (fun k_ => ((P0_2_ k_ ∨ P0_3_ k_) ∨ w.heap.size ≤ k_) ∧ some k_ ≠ (v3 : Value).ownBlock ∧ k_ ≠ gb326 ∧ k_ ≠ gb339) (.slice (some ad338) y335.length co10) y335) ∧ Aside0 (Kd.V (Kd.int .i64) 3 w' w.heap.size (fun k_ => ((P0_2_ k_ ∨ P0_3_ k_) ∨ w.heap.size ≤ k_) ∧ some k_ ≠ (v3 : Value).ownBlock ∧ some k_ ≠ ((.slice (some ad338) y335.length co10) : Value).ownBlock ∧ k_ ≠ gb326 ∧ k_ ≠ gb339) (.slice A0_2 l0_2.length c0_2) l0_2) ∧ Aside0 (Kd.V (Kd.int .i64) 3 w' w.heap.size (fun k_ => ((P0_2_ k_ ∨ P0_3_ k_) ∨ w.heap.size ≤ k_) ∧ some k_ ≠ (v3 : Value).ownBlock ∧ some k_ ≠ ((.slice (some ad338) y335.length co10) : Value).ownBlock ∧ k_ ≠ gb326 ∧ k_ ≠ gb339) (.slice A0_3 l0_3.length c0_3) l0_3) ∧ Aside0 (Kd.V (Kd.int .i64) 3 w' w.heap.size (fun k_ => ((P0_2_ k_ ∨ P0_3_ k_) ∨ w.heap.size ≤ k_) ∧ some k_ ≠ (v3 : Value).ownBlock ∧ some k_ ≠ ((.slice (some ad338) y335.length co10) : Value).ownBlock ∧ k_ ≠ gb326 ∧ k_ ≠ gb339) u340002 x340002_2) ∧ Aside0 (Kd.V (Kd.int .i64) 3 w' w.heap.size (fun k_ => ((P0_2_ k_ ∨ P0_3_ k_) ∨ w.heap.size ≤ k_) ∧ some k_ ≠ (v3 : Value).ownBlock ∧ some k_ ≠ ((.slice (some ad338) y335.length co10) : Value).ownBlock ∧ k_ ≠ gb326 ∧ k_ ≠ gb339) u340003 x340003_2) ∧ Aside0 (w'.heap[gb326]? = some (.cells #[.int .i64 a0_0, .int .i64 a0_1, (.slice A0_2 l0_2.length c0_2), (.slice A0_3 l0_3.length c0_3)] 26 (0, 0))) ∧ Aside0 (w'.heap[gb339]? = some (.cells #[.int .i64 x340000_2, .int .i64 x340001_2, u340002, u340003] 26 (0, 0))) ∧ Aside0 (Below w.heap.size w w'))
      case atStart => exact ⟨(x3_1), (0), ((rd_T26 y335 x12_1).f0), ((rd_T26 y335 x12_1).f1), ((rd_T26 y335 x12_1).f2), ((rd_T26 y335 x12_1).f3), (.slice A338_2 ((rd_T26 y335 x12_1).f2).length c338_2), (.slice A338_3 ((rd_T26 y335 x12_1).f3).length c338_3), zA, H', ⟨Nat.le_refl _⟩, ⟨by (with_reducible repeat (first | apply Kd.R_alloc | apply Kd.R_drewN | apply Kd.R_drew)); exact Kd.R_mono (Kd.R_far (p := ⟨gb339, 3, none⟩) (Kd.R_far (p := ⟨gb339, 2, none⟩) (Kd.R_far (p := ⟨gb339, 1, none⟩) (Kd.R_far (p := ⟨gb339, 0, none⟩) (Kd.R_types HO_3.out BK339.out (by decide)) (fun _ hk => hk.2) (.int .i64 ((rd_T26 y335 x12_1).f0))) (fun _ hk => hk.2) (.int .i64 ((rd_T26 y335 x12_1).f1))) (fun _ hk => hk.2) (.slice A338_2 ((rd_T26 y335 x12_1).f2).length c338_2)) (fun _ hk => hk.2) (.slice A338_3 ((rd_T26 y335 x12_1).f3).length c338_3)) (fun _ hk => hk.1)⟩, ⟨by (with_reducible repeat (first | apply Kd.N_alloc | apply Kd.N_drewN | apply Kd.N_drew)); exact Kd.N_mono (Kd.N_far (p := ⟨gb339, 3, none⟩) (Kd.N_far (p := ⟨gb339, 2, none⟩) (Kd.N_far (p := ⟨gb339, 1, none⟩) (Kd.N_far (p := ⟨gb339, 0, none⟩) (Kd.N_mono HO_10.out (fun k_ hk => (⟨hk, hk.2⟩ : _ ∧ k_ ≠ gb339))) (fun _ hk => hk.2) (.int .i64 ((rd_T26 y335 x12_1).f0))) (fun _ hk => hk.2) (.int .i64 ((rd_T26 y335 x12_1).f1))) (fun _ hk => hk.2) (.slice A338_2 ((rd_T26 y335 x12_1).f2).length c338_2)) (fun _ hk => hk.2) (.slice A338_3 ((rd_T26 y335 x12_1).f3).length c338_3)) (fun _ hk => ⟨hk.1.1.1, ⟨hk.1.1.2.1, ⟨hk.1.1.2.2, hk.1.2⟩⟩⟩)⟩, ⟨by (with_reducible repeat (first | apply Kd.V_alloc | apply Kd.V_drewN | apply Kd.V_drew)); exact Kd.V_mono (Kd.V_far (p := ⟨gb339, 3, none⟩) (Kd.V_far (p := ⟨gb339, 2, none⟩) (Kd.V_far (p := ⟨gb339, 1, none⟩) (Kd.V_far (p := ⟨gb339, 0, none⟩) (Kd.V_mono HO_327002.out (fun k_ hk => (⟨hk, hk.2⟩ : _ ∧ k_ ≠ gb339))) (fun _ hk => hk.2) (.int .i64 ((rd_T26 y335 x12_1).f0))) (fun _ hk => hk.2) (.int .i64 ((rd_T26 y335 x12_1).f1))) (fun _ hk => hk.2) (.slice A338_2 ((rd_T26 y335 x12_1).f2).length c338_2)) (fun _ hk => hk.2) (.slice A338_3 ((rd_T26 y335 x12_1).f3).length c338_3)) (fun _ hk => ⟨hk.1.1.1, ⟨hk.1.1.2.1, ⟨hk.1.1.2.2.1, ⟨hk.1.1.2.2.2, hk.1.2⟩⟩⟩⟩)⟩, ⟨by (with_reducible repeat (first | apply Kd.V_alloc | apply Kd.V_drewN | apply Kd.V_drew)); exact Kd.V_mono (Kd.V_far (p := ⟨gb339, 3, none⟩) (Kd.V_far (p := ⟨gb339, 2, none⟩) (Kd.V_far (p := ⟨gb339, 1, none⟩) (Kd.V_far (p := ⟨gb339, 0, none⟩) (Kd.V_mono HO_327003.out (fun k_ hk => (⟨hk, hk.2⟩ : _ ∧ k_ ≠ gb339))) (fun _ hk => hk.2) (.int .i64 ((rd_T26 y335 x12_1).f0))) (fun _ hk => hk.2) (.int .i64 ((rd_T26 y335 x12_1).f1))) (fun _ hk => hk.2) (.slice A338_2 ((rd_T26 y335 x12_1).f2).length c338_2)) (fun _ hk => hk.2) (.slice A338_3 ((rd_T26 y335 x12_1).f3).length c338_3)) (fun _ hk => ⟨hk.1.1.1, ⟨hk.1.1.2.1, ⟨hk.1.1.2.2.1, ⟨hk.1.1.2.2.2, hk.1.2⟩⟩⟩⟩)⟩, ⟨by (with_reducible repeat (first | apply Kd.V_alloc | apply Kd.V_drewN | apply Kd.V_drew)); exact Kd.V_mono (Kd.V_far (p := ⟨gb339, 3, none⟩) (Kd.V_far (p := ⟨gb339, 2, none⟩) (Kd.V_far (p := ⟨gb339, 1, none⟩) (Kd.V_far (p := ⟨gb339, 0, none⟩) (Kd.V_mono HL338_2.out (fun k_ hk => (⟨hk, hk.2⟩ : _ ∧ k_ ≠ gb339))) (fun _ hk => hk.2) (.int .i64 ((rd_T26 y335 x12_1).f0))) (fun _ hk => hk.2) (.int .i64 ((rd_T26 y335 x12_1).f1))) (fun _ hk => hk.2) (.slice A338_2 ((rd_T26 y335 x12_1).f2).length c338_2)) (fun _ hk => hk.2) (.slice A338_3 ((rd_T26 y335 x12_1).f3).length c338_3)) (fun _ hk => ⟨hk.1.1.1.1, ⟨hk.1.1.1.2.1, ⟨hk.1.1.2, ⟨hk.1.1.1.2.2, hk.1.2⟩⟩⟩⟩)⟩, ⟨by (with_reducible repeat (first | apply Kd.V_alloc | apply Kd.V_drewN | apply Kd.V_drew)); exact Kd.V_mono (Kd.V_far (p := ⟨gb339, 3, none⟩) (Kd.V_far (p := ⟨gb339, 2, none⟩) (Kd.V_far (p := ⟨gb339, 1, none⟩) (Kd.V_far (p := ⟨gb339, 0, none⟩) (Kd.V_mono HL338_3.out (fun k_ hk => (⟨hk, hk.2⟩ : _ ∧ k_ ≠ gb339))) (fun _ hk => hk.2) (.int .i64 ((rd_T26 y335 x12_1).f0))) (fun _ hk => hk.2) (.int .i64 ((rd_T26 y335 x12_1).f1))) (fun _ hk => hk.2) (.slice A338_2 ((rd_T26 y335 x12_1).f2).length c338_2)) (fun _ hk => hk.2) (.slice A338_3 ((rd_T26 y335 x12_1).f3).length c338_3)) (fun _ hk => ⟨hk.1.1.1.1, ⟨hk.1.1.1.2.1, ⟨hk.1.1.2, ⟨hk.1.1.1.2.2, hk.1.2⟩⟩⟩⟩)⟩, ⟨by (with_reducible repeat (first | refine blk_drewN ?_ _ | refine blk_drew ?_ | refine blk_alloc ?_ _)); refine blk_far ?_ NB326_339.out _; (with_reducible repeat (first | refine blk_drewN ?_ _ | refine blk_drew ?_ | refine blk_alloc ?_ _)); refine blk_far ?_ NB326_339.out _; (with_reducible repeat (first | refine blk_drewN ?_ _ | refine blk_drew ?_ | refine blk_alloc ?_ _)); refine blk_far ?_ NB326_339.out _; (with_reducible repeat (first | refine blk_drewN ?_ _ | refine blk_drew ?_ | refine blk_alloc ?_ _)); refine blk_far ?_ NB326_339.out _; (with_reducible repeat (first | refine blk_drewN ?_ _ | refine blk_drew ?_ | refine blk_alloc ?_ _)); exact BK326.out⟩, ⟨by (with_reducible repeat (first | refine blk_drewN ?_ _ | refine blk_drew ?_ | refine blk_alloc ?_ _)); refine blk_put (cs := #[.int .i64 ((rd_T26 y335 x12_1).f0), .int .i64 ((rd_T26 y335 x12_1).f1), .slice A338_2 ((rd_T26 y335 x12_1).f2).length c338_2, .slice none 0 0]) ?_ 3 _ rfl; (with_reducible repeat (first | refine blk_drewN ?_ _ | refine blk_drew ?_ | refine blk_alloc ?_ _)); refine blk_put (cs := #[.int .i64 ((rd_T26 y335 x12_1).f0), .int .i64 ((rd_T26 y335 x12_1).f1), .slice none 0 0, .slice none 0 0]) ?_ 2 _ rfl; (with_reducible repeat (first | refine blk_drewN ?_ _ | refine blk_drew ?_ | refine blk_alloc ?_ _)); refine blk_put (cs := #[.int .i64 ((rd_T26 y335 x12_1).f0), .int .i64 0, .slice none 0 0, .slice none 0 0]) ?_ 1 _ rfl; (with_reducible repeat (first | refine blk_drewN ?_ _ | refine blk_drew ?_ | refine blk_alloc ?_ _)); refine blk_put (cs := #[.int .i64 0, .int .i64 0, .slice none 0 0, .slice none 0 0]) ?_ 0 _ rfl; (with_reducible repeat (first | refine blk_drewN ?_ _ | refine blk_drew ?_ | refine blk_alloc ?_ _)); exact BK339.out⟩, ⟨zB⟩⟩
      case round =>
       clear H'
       (try clear c1); (try clear p2); (try clear c3); (try clear p3); (try clear q3); (try clear hx3); (try clear c4); (try clear c6); (try clear c11); (try clear c11b0); (try clear c12); (try clear c12b0); (try clear c13); (try clear c13b0); (try clear c15); (try clear hcz16_0); (try clear hcz16_1); (try clear hcz16_2); (try clear hcz16_3); (try clear hfz16_0); (try clear hfz16_1); (try clear hfz16_2); (try clear hfz16_3); (try clear hx338_0); (try clear hx338_1); (try clear hx338_2); (try clear hx338_3); (try clear p2); (try clear p338); (try clear q338)
       obtain ⟨x3_2, x6_2, x340000_2, x340001_2, x340002_2, x340003_2, u340002, u340003, rfl, HA, HK2, HO_3, HO_10, HO_327002, HO_327003, HO_340002, HO_340003, BK326, BK339, HB⟩ := hrel
       cases gk with
       | zero => exact absurd HA.out (by simp [spec_pzImages.l1])
       | succ k2 =>
        have H := HA.out
        clear HA
        simp only [spec_pzImages.l1] at H
        by_cases c17 : x6_2 < 4
        ·rw [if_pos c17] at H
         have c17b0 : decide (x6_2 < 4) = true := decide_eq_true c17
         clear c17
         replace H := Option.bind_eq_some_iff.mp H
         obtain ⟨t340, A180, H⟩ := H
         replace H : (if x3_2.length < 8796093022208 then ((spec_fiTurn.f k2 x340000_2 x340001_2 x340002_2 x340003_2).bind fun bt344 => (spec_pzImages.l1 k2 (x3_2 ++ [t340]) (wrap64 (x6_2 + 1)) y335 (y335.length : Int) x12_1 bt344.1 bt344.2.1 bt344.2.2.1 bt344.2.2.2)) else (none)) = some r := H
         have A18 := Aside0.mk A180
         clear A180
         by_cases c19 : x3_2.length < 8796093022208
         ·rw [if_pos c19] at H
          have LMc19 := Aside0.mk c19
          clear c19
          obtain ⟨y341, hy341⟩ : ∃ y_ : List ByteArray, y_ = (x3_2 ++ [t340]) := ⟨_, rfl⟩
          replace H : ((spec_fiTurn.f k2 x340000_2 x340001_2 x340002_2 x340003_2).bind fun bt344 => (spec_pzImages.l1 k2 y341 (wrap64 (x6_2 + 1)) y335 (y335.length : Int) x12_1 bt344.1 bt344.2.1 bt344.2.2.1 bt344.2.2.2)) = some r := by first | (rw [hy341]; with_reducible exact H) | (have H2_ := (Option.bind_some _ _).symm.trans H; rw [hy341]; with_reducible exact H2_) | (have H2_ := (Option.bind_some _ _).symm.trans H; with_reducible exact H2_) | with_reducible exact H | (rw [hy341]; exact H) | exact H
          have Ny341 := Aside0.mk hy341
          clear hy341
          replace H := Option.bind_eq_some_iff.mp H
          obtain ⟨⟨t344, t345, t346, t349⟩, A200, H⟩ := H
          replace H : (spec_pzImages.l1 k2 y341 (wrap64 (x6_2 + 1)) y335 (y335.length : Int) x12_1 t344 t345 t346 t349) = some r := H
          have A20 := Aside0.mk A200
          clear A200
          have H' := Aside0.mk H
          clear H
          have hnb21 := NB339_326.out
          have hnc21 := NB326_339.out
          obtain ⟨hcz22_0, hcz22_1, hcz22_2, hcz22_3, hfz22_0, hfz22_1, hfz22_2, hfz22_3⟩ := blk4 BK339
          obtain ⟨Ao23, co23, eo23⟩ := Kd.V_slice HO_340002.out
          subst eo23
          obtain ⟨Ao24, co24, eo24⟩ := Kd.V_slice HO_340003.out
          subst eo24
          go_wp2_with (first | ((with_reducible refine gate_callee (f := 68) rfl ?_); refine goesL_ (some 22) rfl rfl Tryd.func68 (by kernel_rfl) rfl #[.agg #[.int .i64 x340000_2, .int .i64 x340001_2, .slice Ao23 x340002_2.length co23, .slice Ao24 x340003_2.length co24]] rfl zM ?_; (with_reducible refine (spec_fiText.calls k2 x340000_2 x340001_2 _ _ x340002_2 _ _ x340003_2 t340 _ ?side1 ?side2 ?side3 ?side4 A18.out).mono ?_); (case side1 => repeat (first | exact (Kd.V_reads' HO_340002.out).2.2 | (with_reducible refine Kd.C_alloc ?_ _) | (with_reducible refine Kd.C_drewN ?_ _) | (with_reducible refine Kd.C_drew ?_))); (case side2 => exact (Kd.V_reads' HO_340002.out).2.1); (case side3 => repeat (first | exact (Kd.V_reads' HO_340003.out).2.2 | (with_reducible refine Kd.C_alloc ?_ _) | (with_reducible refine Kd.C_drewN ?_ _) | (with_reducible refine Kd.C_drew ?_))); (case side4 => exact (Kd.V_reads' HO_340003.out).2.1); rintro e w25 ⟨rfl, hb⟩; refine ⟨_, rfl, ?_⟩; replace HO_3 := Aside0.mk (Kd.R_below (zR HO_3) hb); replace HO_10 := Aside0.mk (Kd.N_below (by (with_reducible repeat (first | apply Kd.N_alloc | apply Kd.N_drewN | apply Kd.N_drew)); exact HO_10.out) hb); replace HO_327002 := Aside0.mk (Kd.V_below (by (with_reducible repeat (first | apply Kd.V_alloc | apply Kd.V_drewN | apply Kd.V_drew)); exact HO_327002.out) hb); replace HO_327003 := Aside0.mk (Kd.V_below (by (with_reducible repeat (first | apply Kd.V_alloc | apply Kd.V_drewN | apply Kd.V_drew)); exact HO_327003.out) hb); replace HO_340002 := Aside0.mk (Kd.V_below (by (with_reducible repeat (first | apply Kd.V_alloc | apply Kd.V_drewN | apply Kd.V_drew)); exact HO_340002.out) hb); replace HO_340003 := Aside0.mk (Kd.V_below (by (with_reducible repeat (first | apply Kd.V_alloc | apply Kd.V_drewN | apply Kd.V_drew)); exact HO_340003.out) hb); replace BK326 := zKb BK326 hb; replace BK339 := zKb BK339 hb; replace HB := zBb hb; (try clear hb); (try clear hb2); (try clear hk); (try clear hi)) | ((with_reducible refine gate_builtin (b := .append) (xs := #[.tmp 20, .tmp 23]) rfl ?_); at_builtin; refine Kd.R_append Kd.string (w0 := w) w.heap.size rfl (.tmp 20) (.tmp 23) 63 9 (.string ⟨#[]⟩) 16 rfl Tryd.underlying63 info9 rfl (by decide) (by omega) u3 x3_2 t340 [.string t340] (fun k_ => (w.heap.size ≤ k_)) (fun _ => False) rfl rfl ?aP (fun _ hk => hk.elim) ?aF ?aO ?aB ?aS ?aL ?_; (case aP => exact rfl); (case aB => exact zB); (case aF => exact (fun k_ hk => (Nat.le_trans (below_size zB) hk))); (case aO => exact (zR HO_3)); (case aS => exact (below_size zB)); (case aL => have := LMc19.out; omega); intro v342 w26 ho hb hg hat; rw [← Ny341.out] at ho; have n0_ := Aside0.mk (Kd.N_afterv (ok := (fun k_ => ((P0_2_ k_ ∨ P0_3_ k_) ∨ w.heap.size ≤ k_) ∧ k_ ≠ gb326 ∧ k_ ≠ gb339)) (by (with_reducible repeat (first | apply Kd.N_alloc | apply Kd.N_drewN | apply Kd.N_drew)); exact Kd.N_mono HO_10.out (fun _ hk => ⟨⟨hk.1, ⟨hk.2.2.1, hk.2.2.2⟩⟩, hk.2.1⟩)) hg hat); have n1_ := Aside0.mk (Kd.V_afterv (ok := (fun k_ => ((P0_2_ k_ ∨ P0_3_ k_) ∨ w.heap.size ≤ k_) ∧ some k_ ≠ (.slice (some ad338) y335.length co10 : Value).ownBlock ∧ k_ ≠ gb326 ∧ k_ ≠ gb339)) (by (with_reducible repeat (first | apply Kd.V_alloc | apply Kd.V_drewN | apply Kd.V_drew)); exact Kd.V_mono HO_327002.out (fun _ hk => ⟨⟨hk.1, ⟨hk.2.2.1, ⟨hk.2.2.2.1, hk.2.2.2.2⟩⟩⟩, hk.2.1⟩)) hg hat); have n2_ := Aside0.mk (Kd.V_afterv (ok := (fun k_ => ((P0_2_ k_ ∨ P0_3_ k_) ∨ w.heap.size ≤ k_) ∧ some k_ ≠ (.slice (some ad338) y335.length co10 : Value).ownBlock ∧ k_ ≠ gb326 ∧ k_ ≠ gb339)) (by (with_reducible repeat (first | apply Kd.V_alloc | apply Kd.V_drewN | apply Kd.V_drew)); exact Kd.V_mono HO_327003.out (fun _ hk => ⟨⟨hk.1, ⟨hk.2.2.1, ⟨hk.2.2.2.1, hk.2.2.2.2⟩⟩⟩, hk.2.1⟩)) hg hat); have n3_ := Aside0.mk (Kd.V_afterv (ok := (fun k_ => ((P0_2_ k_ ∨ P0_3_ k_) ∨ w.heap.size ≤ k_) ∧ some k_ ≠ (.slice (some ad338) y335.length co10 : Value).ownBlock ∧ k_ ≠ gb326 ∧ k_ ≠ gb339)) (by (with_reducible repeat (first | apply Kd.V_alloc | apply Kd.V_drewN | apply Kd.V_drew)); exact Kd.V_mono HO_340002.out (fun _ hk => ⟨⟨hk.1, ⟨hk.2.2.1, ⟨hk.2.2.2.1, hk.2.2.2.2⟩⟩⟩, hk.2.1⟩)) hg hat); have n4_ := Aside0.mk (Kd.V_afterv (ok := (fun k_ => ((P0_2_ k_ ∨ P0_3_ k_) ∨ w.heap.size ≤ k_) ∧ some k_ ≠ (.slice (some ad338) y335.length co10 : Value).ownBlock ∧ k_ ≠ gb326 ∧ k_ ≠ gb339)) (by (with_reducible repeat (first | apply Kd.V_alloc | apply Kd.V_drewN | apply Kd.V_drew)); exact Kd.V_mono HO_340003.out (fun _ hk => ⟨⟨hk.1, ⟨hk.2.2.1, ⟨hk.2.2.2.1, hk.2.2.2.2⟩⟩⟩, hk.2.1⟩)) hg hat); have n5_ := Aside0.mk (blk_grown (g := gb326) (o := .cells #[.int .i64 a0_0, .int .i64 a0_1, .slice A0_2 l0_2.length c0_2, .slice A0_3 l0_3.length c0_3] 26 (0, 0)) (zK BK326) hg (Kd.R_ne HO_3.out BK326.out (by decide))); have n6_ := Aside0.mk (blk_grown (g := gb339) (o := .cells #[.int .i64 x340000_2, .int .i64 x340001_2, .slice Ao23 x340002_2.length co23, .slice Ao24 x340003_2.length co24] 26 (0, 0)) (zK BK339) hg (Kd.R_ne HO_3.out BK339.out (by decide))); have n7_ := Aside0.mk (hb); have n8_ := Aside0.mk (ho); clear HO_10; clear HO_327002; clear HO_327003; clear HO_340002; clear HO_340003; clear BK326; clear BK339; clear HB; clear HO_3; have HO_10 := n0_; have HO_327002 := n1_; have HO_327003 := n2_; have HO_340002 := n3_; have HO_340003 := n4_; have BK326 := n5_; have BK339 := n6_; have HB := n7_; have HO343 := n8_; clear n0_ n1_ n2_ n3_ n4_ n5_ n6_ n7_ n8_; clear ho hb hg hat; obtain ⟨hcz27_0, hcz27_1, hcz27_2, hcz27_3, hfz27_0, hfz27_1, hfz27_2, hfz27_3⟩ := blk4 BK339) | ((with_reducible refine gate_callee (f := 69) rfl ?_); refine goesL_ (some 26) rfl rfl Tryd.func69 (by kernel_rfl) rfl #[.agg #[.int .i64 x340000_2, .int .i64 x340001_2, .slice Ao23 x340002_2.length co23, .slice Ao24 x340003_2.length co24]] rfl zM ?_; (with_reducible refine (spec_fiTurn.calls k2 x340000_2 x340001_2 _ _ x340002_2 _ _ x340003_2 t344 t345 t346 t349 _ ?side1 ?side2 ?side3 ?side4 A20.out).mono ?_); (case side1 => repeat (first | exact (Kd.V_reads' HO_340002.out).2.2 | (with_reducible refine Kd.C_alloc ?_ _) | (with_reducible refine Kd.C_drewN ?_ _) | (with_reducible refine Kd.C_drew ?_))); (case side2 => exact (Kd.V_reads' HO_340002.out).2.1); (case side3 => repeat (first | exact (Kd.V_reads' HO_340003.out).2.2 | (with_reducible refine Kd.C_alloc ?_ _) | (with_reducible refine Kd.C_drewN ?_ _) | (with_reducible refine Kd.C_drew ?_))); (case side4 => exact (Kd.V_reads' HO_340003.out).2.1); rintro e w28 ⟨v347, v350, rfl, ho0, ho1, hb⟩; refine ⟨_, rfl, ?_⟩; replace HO_10 := Aside0.mk (Kd.N_mono (Kd.N_told (Kd.N_told (Kd.N_old (by (with_reducible repeat (first | apply Kd.N_alloc | apply Kd.N_drewN | apply Kd.N_drew)); exact HO_10.out) hb) (Kd.R_base ho0)) (Kd.R_base ho1)) (fun _ h_ => h_.1)); replace HO_327002 := Aside0.mk (Kd.V_mono (Kd.V_told (Kd.V_told (Kd.V_old (by (with_reducible repeat (first | apply Kd.V_alloc | apply Kd.V_drewN | apply Kd.V_drew)); exact HO_327002.out) hb) (Kd.R_base ho0)) (Kd.R_base ho1)) (fun _ h_ => h_.1)); replace HO_327003 := Aside0.mk (Kd.V_mono (Kd.V_told (Kd.V_told (Kd.V_old (by (with_reducible repeat (first | apply Kd.V_alloc | apply Kd.V_drewN | apply Kd.V_drew)); exact HO_327003.out) hb) (Kd.R_base ho0)) (Kd.R_base ho1)) (fun _ h_ => h_.1)); replace HO_340002 := Aside0.mk (Kd.V_mono (Kd.V_told (Kd.V_told (Kd.V_old (by (with_reducible repeat (first | apply Kd.V_alloc | apply Kd.V_drewN | apply Kd.V_drew)); exact HO_340002.out) hb) (Kd.R_base ho0)) (Kd.R_base ho1)) (fun _ h_ => h_.1)); replace HO_340003 := Aside0.mk (Kd.V_mono (Kd.V_told (Kd.V_told (Kd.V_old (by (with_reducible repeat (first | apply Kd.V_alloc | apply Kd.V_drewN | apply Kd.V_drew)); exact HO_340003.out) hb) (Kd.R_base ho0)) (Kd.R_base ho1)) (fun _ h_ => h_.1)); replace HO343 := Aside0.mk (Kd.R_below (zR HO343) hb); have HO348 := Aside0.mk (Kd.R_lower (Kd.R_newM (M := fun k_ => (w.heap.size ≤ k_)) ho0 (below_size zB) (fun k_ h_ => h_)) (below_size zB)); have HO351 := Aside0.mk (Kd.R_lower (Kd.R_newM (M := fun k_ => (w.heap.size ≤ k_)) ho1 (below_size zB) (fun k_ h_ => h_)) (below_size zB)); replace BK326 := zKb BK326 hb; replace BK339 := zKb BK339 hb; replace HB := zBb hb; (try clear hb); (try clear hb2); (try clear hk); (try clear hi); (try clear ho0); (try clear ho1); obtain ⟨hcz29_0, hcz29_1, hcz29_2, hcz29_3, hfz29_0, hfz29_1, hfz29_2, hfz29_3⟩ := blk4 BK339; obtain ⟨Ao30, co30, eo30⟩ := Kd.R_slice HO348.out; subst eo30; obtain ⟨Ao31, co31, eo31⟩ := Kd.R_slice HO351.out; subst eo31))
          go_roundg k2
          case measure => have := HK1.out; have := HK2.out; omega
          case rel => exact ⟨(y341), (wrap64 (x6_2 + 1)), (t344), (t345), (t346), (t349), (.slice Ao30 t346.length co30), (.slice Ao31 t349.length co31), zA, H', ⟨by have := HK1.out; have := HK2.out; omega⟩, ⟨by (with_reducible repeat (first | apply Kd.R_alloc | apply Kd.R_drewN | apply Kd.R_drew)); exact zF4 HO343 BK339⟩, ⟨by (with_reducible repeat (first | apply Kd.N_alloc | apply Kd.N_drewN | apply Kd.N_drew)); exact Kd.N_mono (Kd.N_far (p := ⟨gb339, 3, none⟩) (Kd.N_far (p := ⟨gb339, 2, none⟩) (Kd.N_far (p := ⟨gb339, 1, none⟩) (Kd.N_far (p := ⟨gb339, 0, none⟩) (Kd.N_mono HO_10.out (fun k_ hk => (⟨hk, hk.1.1.1.2.2⟩ : _ ∧ k_ ≠ gb339))) (fun _ hk => hk.2) (.int .i64 t344)) (fun _ hk => hk.2) (.int .i64 t345)) (fun _ hk => hk.2) (.slice Ao30 t346.length co30)) (fun _ hk => hk.2) (.slice Ao31 t349.length co31)) (fun _ hk => ⟨hk.1.1.1.1.1, ⟨hk.1.1.1.2, ⟨hk.1.1.1.1.2.1, hk.1.1.1.1.2.2⟩⟩⟩)⟩, ⟨by (with_reducible repeat (first | apply Kd.V_alloc | apply Kd.V_drewN | apply Kd.V_drew)); exact Kd.V_mono (Kd.V_far (p := ⟨gb339, 3, none⟩) (Kd.V_far (p := ⟨gb339, 2, none⟩) (Kd.V_far (p := ⟨gb339, 1, none⟩) (Kd.V_far (p := ⟨gb339, 0, none⟩) (Kd.V_mono HO_327002.out (fun k_ hk => (⟨hk, hk.1.1.1.2.2.2⟩ : _ ∧ k_ ≠ gb339))) (fun _ hk => hk.2) (.int .i64 t344)) (fun _ hk => hk.2) (.int .i64 t345)) (fun _ hk => hk.2) (.slice Ao30 t346.length co30)) (fun _ hk => hk.2) (.slice Ao31 t349.length co31)) (fun _ hk => ⟨hk.1.1.1.1.1, ⟨hk.1.1.1.2, ⟨hk.1.1.1.1.2.1, ⟨hk.1.1.1.1.2.2.1, hk.1.1.1.1.2.2.2⟩⟩⟩⟩)⟩, ⟨by (with_reducible repeat (first | apply Kd.V_alloc | apply Kd.V_drewN | apply Kd.V_drew)); exact Kd.V_mono (Kd.V_far (p := ⟨gb339, 3, none⟩) (Kd.V_far (p := ⟨gb339, 2, none⟩) (Kd.V_far (p := ⟨gb339, 1, none⟩) (Kd.V_far (p := ⟨gb339, 0, none⟩) (Kd.V_mono HO_327003.out (fun k_ hk => (⟨hk, hk.1.1.1.2.2.2⟩ : _ ∧ k_ ≠ gb339))) (fun _ hk => hk.2) (.int .i64 t344)) (fun _ hk => hk.2) (.int .i64 t345)) (fun _ hk => hk.2) (.slice Ao30 t346.length co30)) (fun _ hk => hk.2) (.slice Ao31 t349.length co31)) (fun _ hk => ⟨hk.1.1.1.1.1, ⟨hk.1.1.1.2, ⟨hk.1.1.1.1.2.1, ⟨hk.1.1.1.1.2.2.1, hk.1.1.1.1.2.2.2⟩⟩⟩⟩)⟩, ⟨Kd.V_mono (Kd.R_V (by (with_reducible repeat (first | apply Kd.R_alloc | apply Kd.R_drewN | apply Kd.R_drew)); exact (Kd.R_far (p := ⟨gb339, 3, none⟩) (Kd.R_far (p := ⟨gb339, 2, none⟩) (Kd.R_far (p := ⟨gb339, 1, none⟩) (Kd.R_far (p := ⟨gb339, 0, none⟩) (Kd.R_types (Kd.R_types (Kd.R_types (Kd.R_apart' (Kd.R_apart' HO348.out (Kd.R_typed HO343.out) (by decide)) (Kd.N_typed HO_10.out) (by decide)) BK326.out (by decide)) BK339.out (by decide)) BK339.out (by decide)) (fun _ hk => hk.2) (.int .i64 t344)) (fun _ hk => hk.2) (.int .i64 t345)) (fun _ hk => hk.2) (.slice Ao30 t346.length co30)) (fun _ hk => hk.2) (.slice Ao31 t349.length co31)))) (fun _ hk => by exact ⟨.inr (hk.1.1.1.1.1.1), ⟨hk.1.1.1.1.2, ⟨hk.1.1.1.2, ⟨hk.1.1.2, hk.1.2⟩⟩⟩⟩)⟩, ⟨Kd.V_mono (Kd.R_V (by (with_reducible repeat (first | apply Kd.R_alloc | apply Kd.R_drewN | apply Kd.R_drew)); exact (Kd.R_far (p := ⟨gb339, 3, none⟩) (Kd.R_far (p := ⟨gb339, 2, none⟩) (Kd.R_far (p := ⟨gb339, 1, none⟩) (Kd.R_far (p := ⟨gb339, 0, none⟩) (Kd.R_types (Kd.R_types (Kd.R_types (Kd.R_apart' (Kd.R_apart' HO351.out (Kd.R_typed HO343.out) (by decide)) (Kd.N_typed HO_10.out) (by decide)) BK326.out (by decide)) BK339.out (by decide)) BK339.out (by decide)) (fun _ hk => hk.2) (.int .i64 t344)) (fun _ hk => hk.2) (.int .i64 t345)) (fun _ hk => hk.2) (.slice Ao30 t346.length co30)) (fun _ hk => hk.2) (.slice Ao31 t349.length co31)))) (fun _ hk => by exact ⟨.inr (hk.1.1.1.1.1.1), ⟨hk.1.1.1.1.2, ⟨hk.1.1.1.2, ⟨hk.1.1.2, hk.1.2⟩⟩⟩⟩)⟩, ⟨by (with_reducible repeat (first | refine blk_drewN ?_ _ | refine blk_drew ?_ | refine blk_alloc ?_ _)); refine blk_far ?_ NB326_339.out _; (with_reducible repeat (first | refine blk_drewN ?_ _ | refine blk_drew ?_ | refine blk_alloc ?_ _)); refine blk_far ?_ NB326_339.out _; (with_reducible repeat (first | refine blk_drewN ?_ _ | refine blk_drew ?_ | refine blk_alloc ?_ _)); refine blk_far ?_ NB326_339.out _; (with_reducible repeat (first | refine blk_drewN ?_ _ | refine blk_drew ?_ | refine blk_alloc ?_ _)); refine blk_far ?_ NB326_339.out _; (with_reducible repeat (first | refine blk_drewN ?_ _ | refine blk_drew ?_ | refine blk_alloc ?_ _)); exact BK326.out⟩, ⟨by (with_reducible repeat (first | refine blk_drewN ?_ _ | refine blk_drew ?_ | refine blk_alloc ?_ _)); refine blk_put (cs := #[.int .i64 t344, .int .i64 t345, .slice Ao30 t346.length co30, .slice Ao24 x340003_2.length co24]) ?_ 3 _ rfl; (with_reducible repeat (first | refine blk_drewN ?_ _ | refine blk_drew ?_ | refine blk_alloc ?_ _)); refine blk_put (cs := #[.int .i64 t344, .int .i64 t345, .slice Ao23 x340002_2.length co23, .slice Ao24 x340003_2.length co24]) ?_ 2 _ rfl; (with_reducible repeat (first | refine blk_drewN ?_ _ | refine blk_drew ?_ | refine blk_alloc ?_ _)); refine blk_put (cs := #[.int .i64 t344, .int .i64 x340001_2, .slice Ao23 x340002_2.length co23, .slice Ao24 x340003_2.length co24]) ?_ 1 _ rfl; (with_reducible repeat (first | refine blk_drewN ?_ _ | refine blk_drew ?_ | refine blk_alloc ?_ _)); refine blk_put (cs := #[.int .i64 x340000_2, .int .i64 x340001_2, .slice Ao23 x340002_2.length co23, .slice Ao24 x340003_2.length co24]) ?_ 0 _ rfl; (with_reducible repeat (first | refine blk_drewN ?_ _ | refine blk_drew ?_ | refine blk_alloc ?_ _)); exact BK339.out⟩, ⟨zB⟩⟩
         ·rw [if_neg c19] at H
          exact absurd H (by simp)
        ·rw [if_neg c17] at H
         have c17b0 : decide (x6_2 < 4) = false := decide_eq_false c17
         clear c17
         have H' := Aside0.mk H
         clear H
         go_wp2
         go_roundg k2
         case measure => have := HK1.out; have := HK2.out; omega
         case rel => exact ⟨(x3_2), (wrap64 (x12_1 + 1)), zA, H', ⟨by have := HK1.out; have := HK2.out; omega⟩, ⟨zR HO_3⟩, ⟨by (with_reducible repeat (first | apply Kd.N_alloc | apply Kd.N_drewN | apply Kd.N_drew)); exact Kd.N_mono HO_10.out (fun _ hk => ⟨hk.1, ⟨hk.2.1, hk.2.2.1⟩⟩)⟩, ⟨by (with_reducible repeat (first | apply Kd.V_alloc | apply Kd.V_drewN | apply Kd.V_drew)); exact Kd.V_mono HO_327002.out (fun _ hk => ⟨hk.1, ⟨hk.2.1, ⟨hk.2.2.1, hk.2.2.2.1⟩⟩⟩)⟩, ⟨by (with_reducible repeat (first | apply Kd.V_alloc | apply Kd.V_drewN | apply Kd.V_drew)); exact Kd.V_mono HO_327003.out (fun _ hk => ⟨hk.1, ⟨hk.2.1, ⟨hk.2.2.1, hk.2.2.2.1⟩⟩⟩)⟩, ⟨zK BK326⟩, ⟨zB⟩⟩
     ·rw [if_neg c13] at H
      exact absurd H (by simp)
    ·rw [if_neg c12] at H
     exact absurd H (by simp)
   ·rw [if_neg c11] at H
    have c11b0 : decide (x12_1 < (y335.length : Int)) = false := decide_eq_false c11
    clear c11
    obtain rfl := Option.some.inj H
    go_wp2
    go_ret
    exact ⟨_, zE, zR HO_3, zB⟩

end Go.Proofs.YtdjecdghfmadoaaDoor.S
