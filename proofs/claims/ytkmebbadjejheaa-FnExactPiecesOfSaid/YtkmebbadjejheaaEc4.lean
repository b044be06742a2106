import Derived.Test.YtkmebbadjejheaaEd
import Derived.Test.YtkmebbadjejheaaEc2
namespace Go.Proofs.Ytkmebbadjejheaa.E
open Go.RowKit Go.Proofs.YtkmebbadjejheaaW.PrintWords Go.Proofs.YtkmebbadjejheaaW.PrintLast Go.Proofs.YtkmebbadjejheaaW.PrintMore
attribute [local go_sem] max2_int min2_int max_two min_two max_three min_three max_four min_four
set_option linter.unusedVariables false
set_option linter.unusedSimpArgs false

/-! ### impl_Figure_set: function 34 -/
set_option maxHeartbeats 8000000 in
set_option maxRecDepth 100000 in
theorem impl_Figure_set.calls (k : Nat) (a0_0 : Int) (a0_1 : Int) (A0_2 : Option Addr) (c0_2 : Nat) (l0_2 : List Int) (A0_3 : Option Addr) (c0_3 : Nat) (l0_3 : List Int) (r : Int) (w : World) (hr0_2 : Kd.C (Kd.int .i64) w A0_2 l0_2.length l0_2) (hc0_2 : l0_2.length ≤ c0_2) (hr0_3 : Kd.C (Kd.int .i64) w A0_3 l0_3.length l0_3) (hc0_3 : l0_3.length ≤ c0_3) (h : impl_Figure_set.f k a0_0 a0_1 l0_2 l0_3 = some r) :
  Calls Try.prog 34 #[.agg #[.int .i64 a0_0, .int .i64 a0_1, .slice A0_2 l0_2.length c0_2, .slice A0_3 l0_3.length c0_3]] w fun e w' => e = .returned (.int .u64 r) ∧ Below w.heap.size w w' := by
 have hu29 := Try.underlying29
 have HR0_2 := Aside0.mk hr0_2
 have HC0_2 := Aside0.mk hc0_2
 clear hr0_2 hc0_2
 have HR0_3 := Aside0.mk hr0_3
 have HC0_3 := Aside0.mk hc0_3
 clear hr0_3 hc0_3
 have HB := Aside0.mk (Below.refl w.heap.size w)
 have H : (impl_Figure_set.l0 k 0 l0_2 (l0_2.length : Int) 0 a0_0 a0_1 l0_2 l0_3) = some r := h
 clear h
 have H' := Aside0.mk H
 clear H
 go_enter Try.func34, Try.ntmps34
 go_wp2_with (first | ((with_reducible refine gate_dst (N := 1) rfl ?_); refine box_event ?hg (N := 1) ?hd (cs := #[.int .i64 a0_0, .int .i64 a0_1, .slice A0_2 l0_2.length c0_2, .slice A0_3 l0_3.length c0_3]) (t := 29) ?hr ?_; (case hd => rfl); (case hg => rfl); (case hr => first | (go_simp; done) | (go_simp; rfl)); intro gb184 hg w2 hbox hb; have n0_ := Aside0.mk (below_step (by repeat (first | (with_reducible first | exact HB.out | apply below_alloc | apply pw_below_drewN | apply below_drew1) | exact HB.out)) hb); have n1_ := Aside0.mk (hbox); have n2_ := Aside0.mk ((by rw [hg]; exact (below_size (by repeat (first | (with_reducible first | exact HB.out | apply below_alloc | apply pw_below_drewN | apply below_drew1) | exact HB.out))) : w.heap.size ≤ gb184)); have n3_ := Aside0.mk ((by rw [hg]; exact (below_size (by repeat (first | (with_reducible first | exact HB.out | apply below_alloc | apply pw_below_drewN | apply below_drew1) | exact HB.out))) : w.heap.size ≤ gb184)); clear HB; have HB := n0_; have BK184 := n1_; have GW184 := n2_; have GE184 := n3_; clear n0_ n1_ n2_ n3_; clear hb hbox hg; have hcz3_0 : w2.cell? ⟨gb184, 0, none⟩ = some (.int .i64 a0_0) := (blk_cell BK184.out 0).trans rfl; have hcz3_1 : w2.cell? ⟨gb184, 1, none⟩ = some (.int .i64 a0_1) := (blk_cell BK184.out 1).trans rfl; have hcz3_2 : w2.cell? ⟨gb184, 2, none⟩ = some (.slice A0_2 l0_2.length c0_2) := (blk_cell BK184.out 2).trans rfl; have hcz3_3 : w2.cell? ⟨gb184, 3, none⟩ = some (.slice A0_3 l0_3.length c0_3) := (blk_cell BK184.out 3).trans rfl; have hfz3_0 := blk_frozen BK184.out 0; have hfz3_1 := blk_frozen BK184.out 1; have hfz3_2 := blk_frozen BK184.out 2; have hfz3_3 := blk_frozen BK184.out 3))
 go_loopg [3, 11] k (fun kq v3 v11 w' => ∃ (x3_1 : Int) (x11_1 : Int), v3 = .int .u64 x3_1 ∧ v11 = .int .i64 x11_1 ∧ Aside0 (impl_Figure_set.l0 kq x3_1 l0_2 (l0_2.length : Int) x11_1 a0_0 a0_1 l0_2 l0_3 = some r) ∧ Aside0 (kq ≤ k) ∧ Aside0 (w'.heap[gb184]? = some (.cells #[.int .i64 a0_0, .int .i64 a0_1, (.slice A0_2 l0_2.length c0_2), (.slice A0_3 l0_3.length c0_3)] 29 (0, 0))) ∧ Aside0 (Below w.heap.size w w'))
 case atStart => exact ⟨(0), (0), (by first | rfl | (simp; done) | (simp [*]; done)), (by first | rfl | (simp; done) | (simp [*]; done)), H', ⟨Nat.le_refl _⟩, ⟨by (with_reducible repeat (first | refine blk_drewN ?_ _ | refine blk_drew ?_ | refine blk_alloc ?_ _)); exact BK184.out⟩, ⟨by repeat (first | (with_reducible first | exact HB.out | apply below_alloc | apply pw_below_drewN | apply below_drew1 | refine below_set ?_ GE184.out) | exact HB.out)⟩⟩
 case round =>
  clear H'
  (try clear p2); (try clear c3); (try clear hcz3_0); (try clear hcz3_1); (try clear hcz3_2); (try clear hcz3_3); (try clear hfz3_0); (try clear hfz3_1); (try clear hfz3_2); (try clear hfz3_3)
  obtain ⟨x3_1, x11_1, rfl, rfl, HA, HK1, BK184, HB⟩ := hrel
  cases gk with
  | zero => exact absurd HA.out (by simp [impl_Figure_set.l0])
  | succ k1 =>
   have H := HA.out
   clear HA
   simp only [impl_Figure_set.l0] at H
   by_cases c4 : x11_1 < (l0_2.length : Int)
   ·rw [if_pos c4] at H
    have c4b0 : decide (x11_1 < (l0_2.length : Int)) = true := decide_eq_true c4
    clear c4
    by_cases c5 : 0 ≤ x11_1
    ·rw [if_pos c5] at H
     have c5b0 : decide (0 ≤ x11_1) = true := decide_eq_true c5
     clear c5
     by_cases c6 : x11_1 < (l0_2.length : Int)
     ·rw [if_pos c6] at H
      have c6b0 : decide (x11_1 < (l0_2.length : Int)) = true := decide_eq_true c6
      clear c6
      by_cases c7 : 0 ≤ (rd l0_2 x11_1)
      ·rw [if_pos c7] at H
       have c7b0 := eq_true c7
       have c7b1 : decide (0 ≤ (rd l0_2 x11_1)) = true := decide_eq_true c7
       clear c7
       obtain ⟨ji8, hji8⟩ : ∃ j_ : Int, (shl .u64 1 (rd l0_2 x11_1)) = j_ := ⟨_, rfl⟩
       replace H : (impl_Figure_set.l0 k1 (Go.bits .or .u64 x3_1 (ji8)) l0_2 (l0_2.length : Int) (wrap64 (x11_1 + 1)) a0_0 a0_1 l0_2 l0_3) = some r := by first | (rw [hji8] at H; exact H) | (simp only [hji8] at H ⊢; exact H)
       have hji8_ : (IntKind.u64.wrap (1 * 2 ^ min (rd l0_2 x11_1).toNat 64)) = ji8 := hji8
       have hji8z : (rd l0_2 x11_1) ≤ 64 → (IntKind.u64.wrap (1 * 2 ^ (rd l0_2 x11_1).toNat)) = ji8 := shl_small hji8
       have hji8u : (IntKind.u64.wrap (2 ^ min (rd l0_2 x11_1).toNat 64)) = ji8 := by have h_ := hji8_; rw [Int.one_mul] at h_; exact h_
       have hji8v : (rd l0_2 x11_1) ≤ 64 → (IntKind.u64.wrap (2 ^ (rd l0_2 x11_1).toNat)) = ji8 := fun hle_ => by have h_ := hji8z hle_; rw [Int.one_mul] at h_; exact h_
       have H' := Aside0.mk H
       clear H
       have p185 : 0 ≤ (x11_1 : Int) := of_decide_eq_true (by first | (with_reducible assumption) | assumption)
       have q185 : x11_1 < (l0_2.length : Int) := of_decide_eq_true (by first | (with_reducible assumption) | assumption)
       obtain ⟨ad185, e185, hx185_0⟩ := Kd.at_int HR0_2.out x11_1 p185 q185
       cases e185
       replace hx185_0 := (HB.out.cell (World.block_lt_of_cell? w _ hx185_0)).trans hx185_0
       replace p185 := eq_true p185
       replace q185 := eq_true q185
       go_wp2
       go_roundg k1
       case measure => have := HK1.out; omega
       case rel => exact ⟨(Go.bits .or .u64 x3_1 (ji8)), (wrap64 (x11_1 + 1)), (by first | rfl | (simp; done) | (simp only [← hji8] <;> (first | rfl | simp)) | (simp [*]; done)), (by first | rfl | (simp; done) | (simp [*]; done)), H', ⟨by have := HK1.out; omega⟩, ⟨by (with_reducible repeat (first | refine blk_drewN ?_ _ | refine blk_drew ?_ | refine blk_alloc ?_ _)); exact BK184.out⟩, ⟨by repeat (first | (with_reducible first | exact HB.out | apply below_alloc | apply pw_below_drewN | apply below_drew1 | refine below_set ?_ GE184.out) | exact HB.out)⟩⟩
      ·rw [if_neg c7] at H
       exact absurd H (by simp)
     ·rw [if_neg c6] at H
      exact absurd H (by simp)
    ·rw [if_neg c5] at H
     exact absurd H (by simp)
   ·rw [if_neg c4] at H
    have c4b0 : decide (x11_1 < (l0_2.length : Int)) = false := decide_eq_false c4
    clear c4
    have H' := Aside0.mk H
    clear H
    have hcz9_0 : wr.cell? ⟨gb184, 0, none⟩ = some (.int .i64 a0_0) := (blk_cell BK184.out 0).trans rfl
    have hcz9_1 : wr.cell? ⟨gb184, 1, none⟩ = some (.int .i64 a0_1) := (blk_cell BK184.out 1).trans rfl
    have hcz9_2 : wr.cell? ⟨gb184, 2, none⟩ = some (.slice A0_2 l0_2.length c0_2) := (blk_cell BK184.out 2).trans rfl
    have hcz9_3 : wr.cell? ⟨gb184, 3, none⟩ = some (.slice A0_3 l0_3.length c0_3) := (blk_cell BK184.out 3).trans rfl
    have hfz9_0 := blk_frozen BK184.out 0
    have hfz9_1 := blk_frozen BK184.out 1
    have hfz9_2 := blk_frozen BK184.out 2
    have hfz9_3 := blk_frozen BK184.out 3
    go_wp2
    go_loopg [3, 23] k1 (fun kq v3 v23 w' => ∃ (x3_2 : Int) (x23_2 : Int), v3 = .int .u64 x3_2 ∧ v23 = .int .i64 x23_2 ∧ Aside0 (impl_Figure_set.l1 kq x3_2 l0_3 (l0_3.length : Int) x23_2 a0_0 a0_1 l0_2 l0_3 = some r) ∧ Aside0 (kq ≤ k1) ∧ Aside0 (w'.heap[gb184]? = some (.cells #[.int .i64 a0_0, .int .i64 a0_1, (.slice A0_2 l0_2.length c0_2), (.slice A0_3 l0_3.length c0_3)] 29 (0, 0))) ∧ Aside0 (Below w.heap.size w w'))
    case atStart => exact ⟨(x3_1), (0), (by first | rfl | (simp; done) | (simp [*]; done)), (by first | rfl | (simp; done) | (simp [*]; done)), H', ⟨Nat.le_refl _⟩, ⟨by (with_reducible repeat (first | refine blk_drewN ?_ _ | refine blk_drew ?_ | refine blk_alloc ?_ _)); exact BK184.out⟩, ⟨by repeat (first | (with_reducible first | exact HB.out | apply below_alloc | apply pw_below_drewN | apply below_drew1 | refine below_set ?_ GE184.out) | exact HB.out)⟩⟩
    case round =>
     clear H'
     (try clear p1); (try clear q1); (try clear hx1); (try clear p2); (try clear c3); (try clear c4); (try clear c4b0); (try clear c5); (try clear c5b0); (try clear c6); (try clear c6b0); (try clear p6); (try clear c7); (try clear c7b0); (try clear c7b1); (try clear hcz3_0); (try clear hcz3_1); (try clear hcz3_2); (try clear hcz3_3); (try clear hcz9_0); (try clear hcz9_1); (try clear hcz9_2); (try clear hcz9_3); (try clear hfz3_0); (try clear hfz3_1); (try clear hfz3_2); (try clear hfz3_3); (try clear hfz9_0); (try clear hfz9_1); (try clear hfz9_2); (try clear hfz9_3); (try clear hx185_0); (try clear p185); (try clear p2); (try clear q185)
     obtain ⟨x3_2, x23_2, rfl, rfl, HA, HK2, BK184, HB⟩ := hrel
     cases gk with
     | zero => exact absurd HA.out (by simp [impl_Figure_set.l1])
     | succ k2 =>
      have H := HA.out
      clear HA
      simp only [impl_Figure_set.l1] at H
      by_cases c10 : x23_2 < (l0_3.length : Int)
      ·rw [if_pos c10] at H
       have c10b0 : decide (x23_2 < (l0_3.length : Int)) = true := decide_eq_true c10
       clear c10
       by_cases c11 : 0 ≤ x23_2
       ·rw [if_pos c11] at H
        have c11b0 : decide (0 ≤ x23_2) = true := decide_eq_true c11
        clear c11
        by_cases c12 : x23_2 < (l0_3.length : Int)
        ·rw [if_pos c12] at H
         have c12b0 : decide (x23_2 < (l0_3.length : Int)) = true := decide_eq_true c12
         clear c12
         replace H := Option.bind_eq_some_iff.mp H
         obtain ⟨⟨t187, t188⟩, A130, H⟩ := H
         replace H : ((impl_grid_levels.f t187 t188).bind fun t189 => (if 0 ≤ (wrap64 (t189 + (rd l0_3 x23_2))) then (impl_Figure_set.l1 k2 (Go.bits .or .u64 x3_2 (shl .u64 1 (wrap64 (t189 + (rd l0_3 x23_2))))) l0_3 (l0_3.length : Int) (wrap64 (x23_2 + 1)) a0_0 a0_1 l0_2 l0_3) else (none))) = some r := H
         have A13 := Aside0.mk A130
         clear A130
         replace H := Option.bind_eq_some_iff.mp H
         obtain ⟨t189, A140, H⟩ := H
         replace H : (if 0 ≤ (wrap64 (t189 + (rd l0_3 x23_2))) then (impl_Figure_set.l1 k2 (Go.bits .or .u64 x3_2 (shl .u64 1 (wrap64 (t189 + (rd l0_3 x23_2))))) l0_3 (l0_3.length : Int) (wrap64 (x23_2 + 1)) a0_0 a0_1 l0_2 l0_3) else (none)) = some r := H
         have A14 := Aside0.mk A140
         clear A140
         obtain ⟨ji15, hji15⟩ : ∃ j_ : Int, (wrap64 (t189 + (rd l0_3 x23_2))) = j_ := ⟨_, rfl⟩
         replace H : (if 0 ≤ (ji15) then (impl_Figure_set.l1 k2 (Go.bits .or .u64 x3_2 (shl .u64 1 (ji15))) l0_3 (l0_3.length : Int) (wrap64 (x23_2 + 1)) a0_0 a0_1 l0_2 l0_3) else (none)) = some r := by first | (rw [hji15] at H; exact H) | (simp only [hji15] at H ⊢; exact H)
         (try rw [hji15] at A13)
         (try rw [hji15] at A14)
         have hji15w : (IntKind.i64.wrap (t189 + (rd l0_3 x23_2))) = ji15 := (i64_w _).trans hji15
         by_cases c16 : 0 ≤ (ji15)
         ·rw [if_pos c16] at H
          have c16b0 := eq_true c16
          have c16b1 : decide (0 ≤ (ji15)) = true := decide_eq_true c16
          clear c16
          obtain ⟨ji17, hji17⟩ : ∃ j_ : Int, (shl .u64 1 (ji15)) = j_ := ⟨_, rfl⟩
          replace H : (impl_Figure_set.l1 k2 (Go.bits .or .u64 x3_2 (ji17)) l0_3 (l0_3.length : Int) (wrap64 (x23_2 + 1)) a0_0 a0_1 l0_2 l0_3) = some r := by first | (rw [hji17] at H; exact H) | (simp only [hji17] at H ⊢; exact H)
          (try rw [hji17] at A13)
          (try rw [hji17] at A14)
          have hji17_ : (IntKind.u64.wrap (1 * 2 ^ min (ji15).toNat 64)) = ji17 := hji17
          have hji17z : (ji15) ≤ 64 → (IntKind.u64.wrap (1 * 2 ^ (ji15).toNat)) = ji17 := shl_small hji17
          have hji17u : (IntKind.u64.wrap (2 ^ min (ji15).toNat 64)) = ji17 := by have h_ := hji17_; rw [Int.one_mul] at h_; exact h_
          have hji17v : (ji15) ≤ 64 → (IntKind.u64.wrap (2 ^ (ji15).toNat)) = ji17 := fun hle_ => by have h_ := hji17z hle_; rw [Int.one_mul] at h_; exact h_
          have H' := Aside0.mk H
          clear H
          have p186 : 0 ≤ (x23_2 : Int) := of_decide_eq_true (by first | (with_reducible assumption) | assumption)
          have q186 : x23_2 < (l0_3.length : Int) := of_decide_eq_true (by first | (with_reducible assumption) | assumption)
          obtain ⟨ad186, e186, hx186_0⟩ := Kd.at_int HR0_3.out x23_2 p186 q186
          cases e186
          replace hx186_0 := (HB.out.cell (World.block_lt_of_cell? w _ hx186_0)).trans hx186_0
          replace p186 := eq_true p186
          replace q186 := eq_true q186
          have hcz18_0 : wr.cell? ⟨gb184, 0, none⟩ = some (.int .i64 a0_0) := (blk_cell BK184.out 0).trans rfl
          have hcz18_1 : wr.cell? ⟨gb184, 1, none⟩ = some (.int .i64 a0_1) := (blk_cell BK184.out 1).trans rfl
          have hcz18_2 : wr.cell? ⟨gb184, 2, none⟩ = some (.slice A0_2 l0_2.length c0_2) := (blk_cell BK184.out 2).trans rfl
          have hcz18_3 : wr.cell? ⟨gb184, 3, none⟩ = some (.slice (some ad186) l0_3.length c0_3) := (blk_cell BK184.out 3).trans rfl
          have hfz18_0 := blk_frozen BK184.out 0
          have hfz18_1 := blk_frozen BK184.out 1
          have hfz18_2 := blk_frozen BK184.out 2
          have hfz18_3 := blk_frozen BK184.out 3
          go_wp2_with (first | ((with_reducible refine gate_callee (f := 41) rfl ?_); refine goesL_ (some 29) rfl rfl Try.func41 (by kernel_rfl) rfl #[.agg #[.int .i64 a0_0, .int .i64 a0_1, .slice A0_2 l0_2.length c0_2, .slice (some ad186) l0_3.length c0_3]] rfl (by (try simp only [List.map_toArray, List.map_cons, List.map_nil]); first | done | rfl) ?_; (with_reducible refine (impl_Figure_grid.calls a0_0 a0_1 _ _ l0_2 _ _ l0_3 t187 t188 _ ?side1 ?side2 ?side3 ?side4 A13.out).mono ?_); (case side1 => repeat (first | exact (Kd.C_below HR0_2.out HB.out) | (with_reducible refine Kd.C_alloc ?_ _) | (with_reducible refine Kd.C_drewN ?_ _) | (with_reducible refine Kd.C_drew ?_))); (case side2 => exact HC0_2.out); (case side3 => repeat (first | exact (Kd.C_below HR0_3.out HB.out) | (with_reducible refine Kd.C_alloc ?_ _) | (with_reducible refine Kd.C_drewN ?_ _) | (with_reducible refine Kd.C_drew ?_))); (case side4 => exact HC0_3.out); rintro e w19 ⟨rfl, hb⟩; refine ⟨_, rfl, ?_⟩; have n0_ := Aside0.mk (blk_below (g := gb184) (o := .cells #[.int .i64 a0_0, .int .i64 a0_1, .slice A0_2 l0_2.length c0_2, .slice (some ad186) l0_3.length c0_3] 29 (0, 0)) (by (with_reducible repeat (first | refine blk_drewN ?_ _ | refine blk_drew ?_ | refine blk_alloc ?_ _)); exact BK184.out) hb); have n1_ := Aside0.mk (below_step (by repeat (first | (with_reducible first | exact HB.out | apply below_alloc | apply pw_below_drewN | apply below_drew1 | refine below_set ?_ GE184.out) | exact HB.out)) hb); clear BK184; clear HB; have BK184 := n0_; have HB := n1_; clear n0_ n1_; (try clear hb); (try clear hb2); (try clear hk); (try clear hi)) | ((with_reducible refine gate_callee (f := 54) rfl ?_); refine goesL_ (some 30) rfl rfl Try.func54 (by kernel_rfl) rfl #[.agg #[.int .i64 t187, .int .i64 t188]] rfl (by (try simp only [List.map_toArray, List.map_cons, List.map_nil]); first | done | rfl) ?_; (with_reducible refine (impl_grid_levels.calls t187 t188 t189 _ A14.out).mono ?_); rintro e w20 ⟨rfl, hb⟩; refine ⟨_, rfl, ?_⟩; have n0_ := Aside0.mk (blk_below (g := gb184) (o := .cells #[.int .i64 a0_0, .int .i64 a0_1, .slice A0_2 l0_2.length c0_2, .slice (some ad186) l0_3.length c0_3] 29 (0, 0)) (by (with_reducible repeat (first | refine blk_drewN ?_ _ | refine blk_drew ?_ | refine blk_alloc ?_ _)); exact BK184.out) hb); have n1_ := Aside0.mk (below_step (by repeat (first | (with_reducible first | exact HB.out | apply below_alloc | apply pw_below_drewN | apply below_drew1 | refine below_set ?_ GE184.out) | exact HB.out)) hb); clear BK184; clear HB; have BK184 := n0_; have HB := n1_; clear n0_ n1_; (try clear hb); (try clear hb2); (try clear hk); (try clear hi)))
          go_roundg k2
          case measure => have := HK1.out; have := HK2.out; omega
          case rel => exact ⟨(Go.bits .or .u64 x3_2 (ji17)), (wrap64 (x23_2 + 1)), (by first | rfl | (simp; done) | (simp only [← hji17] <;> (first | rfl | simp)) | (simp [*]; done)), (by first | rfl | (simp; done) | (simp [*]; done)), H', ⟨by have := HK1.out; have := HK2.out; omega⟩, ⟨by (with_reducible repeat (first | refine blk_drewN ?_ _ | refine blk_drew ?_ | refine blk_alloc ?_ _)); exact BK184.out⟩, ⟨by repeat (first | (with_reducible first | exact HB.out | apply below_alloc | apply pw_below_drewN | apply below_drew1 | refine below_set ?_ GE184.out) | exact HB.out)⟩⟩
         ·rw [if_neg c16] at H
          exact absurd H (by simp)
        ·rw [if_neg c12] at H
         exact absurd H (by simp)
       ·rw [if_neg c11] at H
        exact absurd H (by simp)
      ·rw [if_neg c10] at H
       have c10b0 : decide (x23_2 < (l0_3.length : Int)) = false := decide_eq_false c10
       clear c10
       obtain rfl := Option.some.inj H
       go_wp2
       go_ret
       exact ⟨by first | rfl | (simp [errW_none, errW_some] <;> rfl) | (simp [*, errW_none, errW_some] <;> rfl), by repeat (first | (with_reducible first | exact HB.out | apply below_alloc | apply pw_below_drewN | apply below_drew1 | refine below_set ?_ GE184.out) | exact HB.out)⟩

/-! ### impl_grid_isCell: function 82 -/
set_option maxHeartbeats 8000000 in
set_option maxRecDepth 100000 in
theorem impl_grid_isCell.calls (a0_0 : Int) (a0_1 : Int) (a1 : Int) (a2 : Int) (r : Bool) (w : World) (h : impl_grid_isCell.f a0_0 a0_1 a1 a2 = some r) :
  Calls Try.prog 82 #[.agg #[.int .i64 a0_0, .int .i64 a0_1], .int .i64 a1, .int .i64 a2] w fun e w' => e = .returned (.bool r) ∧ Below w.heap.size w w' := by
 have hu71 := Try.underlying71
 have HB := Aside0.mk (Below.refl w.heap.size w)
 have H : ((impl_within.f a1 0 (wrap64 (a0_0 - 1))).bind fun t191 => (if t191 = true then ((impl_within.f a2 0 (wrap64 (a0_1 - 1))).bind fun t192 => (some t192)) else (some false))) = some r := h
 clear h
 replace H := Option.bind_eq_some_iff.mp H
 obtain ⟨t191, A40, H⟩ := H
 replace H : (if t191 = true then ((impl_within.f a2 0 (wrap64 (a0_1 - 1))).bind fun t192 => (some t192)) else (some false)) = some r := H
 have A4 := Aside0.mk A40
 clear A40
 by_cases c5 : t191 = true
 ·subst c5
  have H1 : ((impl_within.f a2 0 (wrap64 (a0_1 - 1))).bind fun t192 => (some t192)) = some r := by rw [if_pos rfl] at H; exact H
  clear H
  have H := H1
  clear H1
  replace H := Option.bind_eq_some_iff.mp H
  obtain ⟨t192, A60, H⟩ := H
  replace H : (some t192) = some r := H
  have A6 := Aside0.mk A60
  clear A60
  obtain rfl := Option.some.inj H
  go_enter Try.func82, Try.ntmps82
  go_wp2_with (first | ((with_reducible refine gate_dst (N := 3) rfl ?_); refine box_event ?hg (N := 3) ?hd (cs := #[.int .i64 a0_0, .int .i64 a0_1]) (t := 71) ?hr ?_; (case hd => rfl); (case hg => rfl); (case hr => first | (go_simp; done) | (go_simp; rfl)); intro gb190 hg w7 hbox hb; have n0_ := Aside0.mk (below_step (by repeat (first | (with_reducible first | exact HB.out | apply below_alloc | apply pw_below_drewN | apply below_drew1) | exact HB.out)) hb); have n1_ := Aside0.mk (hbox); have n2_ := Aside0.mk ((by rw [hg]; exact (below_size (by repeat (first | (with_reducible first | exact HB.out | apply below_alloc | apply pw_below_drewN | apply below_drew1) | exact HB.out))) : w.heap.size ≤ gb190)); have n3_ := Aside0.mk ((by rw [hg]; exact (below_size (by repeat (first | (with_reducible first | exact HB.out | apply below_alloc | apply pw_below_drewN | apply below_drew1) | exact HB.out))) : w.heap.size ≤ gb190)); clear HB; have HB := n0_; have BK190 := n1_; have GW190 := n2_; have GE190 := n3_; clear n0_ n1_ n2_ n3_; clear hb hbox hg; have hcz8_0 : w7.cell? ⟨gb190, 0, none⟩ = some (.int .i64 a0_0) := (blk_cell BK190.out 0).trans rfl; have hcz8_1 : w7.cell? ⟨gb190, 1, none⟩ = some (.int .i64 a0_1) := (blk_cell BK190.out 1).trans rfl; have hfz8_0 := blk_frozen BK190.out 0; have hfz8_1 := blk_frozen BK190.out 1) | ((with_reducible refine gate_callee (f := 30) rfl ?_); refine goesL_ (some 11) rfl rfl Try.func30 (by kernel_rfl) rfl #[.int .i64 a1, .int .i64 0, .int .i64 (wrap64 (a0_0 - 1))] rfl (by (try simp only [List.map_toArray, List.map_cons, List.map_nil]); first | done | rfl) ?_; (with_reducible refine (impl_within.calls a1 0 (wrap64 (a0_0 - 1)) true _ A4.out).mono ?_); rintro e w' ⟨rfl, ⟨nd, rfl⟩⟩; refine ⟨_, rfl, ?_⟩) | (go_at_call 30; (with_reducible refine (impl_within.calls a2 0 (wrap64 (a0_1 - 1)) t192 _ A6.out).mono ?_); rintro e w' ⟨rfl, ⟨nd, rfl⟩⟩))
  go_ret
  exact ⟨by first | rfl | (simp [errW_none, errW_some] <;> rfl) | (simp [*, errW_none, errW_some] <;> rfl), by repeat (first | (with_reducible first | exact HB.out | apply below_alloc | apply pw_below_drewN | apply below_drew1 | refine below_set ?_ GE190.out) | exact HB.out)⟩
 ·replace c5 := Bool.eq_false_iff.mpr c5
  subst c5
  have H1 : (some false) = some r := by rw [if_neg (show ¬ (false = true) by decide)] at H; exact H
  clear H
  have H := H1
  clear H1
  obtain rfl := Option.some.inj H
  go_enter Try.func82, Try.ntmps82
  go_wp2_with (first | ((with_reducible refine gate_dst (N := 3) rfl ?_); refine box_event ?hg (N := 3) ?hd (cs := #[.int .i64 a0_0, .int .i64 a0_1]) (t := 71) ?hr ?_; (case hd => rfl); (case hg => rfl); (case hr => first | (go_simp; done) | (go_simp; rfl)); intro gb190 hg w9 hbox hb; have n0_ := Aside0.mk (below_step (by repeat (first | (with_reducible first | exact HB.out | apply below_alloc | apply pw_below_drewN | apply below_drew1) | exact HB.out)) hb); have n1_ := Aside0.mk (hbox); have n2_ := Aside0.mk ((by rw [hg]; exact (below_size (by repeat (first | (with_reducible first | exact HB.out | apply below_alloc | apply pw_below_drewN | apply below_drew1) | exact HB.out))) : w.heap.size ≤ gb190)); have n3_ := Aside0.mk ((by rw [hg]; exact (below_size (by repeat (first | (with_reducible first | exact HB.out | apply below_alloc | apply pw_below_drewN | apply below_drew1) | exact HB.out))) : w.heap.size ≤ gb190)); clear HB; have HB := n0_; have BK190 := n1_; have GW190 := n2_; have GE190 := n3_; clear n0_ n1_ n2_ n3_; clear hb hbox hg; have hcz10_0 : w9.cell? ⟨gb190, 0, none⟩ = some (.int .i64 a0_0) := (blk_cell BK190.out 0).trans rfl; have hcz10_1 : w9.cell? ⟨gb190, 1, none⟩ = some (.int .i64 a0_1) := (blk_cell BK190.out 1).trans rfl; have hfz10_0 := blk_frozen BK190.out 0; have hfz10_1 := blk_frozen BK190.out 1) | ((with_reducible refine gate_callee (f := 30) rfl ?_); refine goesL_ (some 11) rfl rfl Try.func30 (by kernel_rfl) rfl #[.int .i64 a1, .int .i64 0, .int .i64 (wrap64 (a0_0 - 1))] rfl (by (try simp only [List.map_toArray, List.map_cons, List.map_nil]); first | done | rfl) ?_; (with_reducible refine (impl_within.calls a1 0 (wrap64 (a0_0 - 1)) false _ A4.out).mono ?_); rintro e w' ⟨rfl, ⟨nd, rfl⟩⟩; refine ⟨_, rfl, ?_⟩))
  go_ret
  exact ⟨by first | rfl | (simp [errW_none, errW_some] <;> rfl) | (simp [*, errW_none, errW_some] <;> rfl), by repeat (first | (with_reducible first | exact HB.out | apply below_alloc | apply pw_below_drewN | apply below_drew1 | refine below_set ?_ GE190.out) | exact HB.out)⟩

/-! ### impl_grid_beside: function 77 -/
theorem bs_new (w : World) (o : Obj) : (w.alloc o).heap[w.heap.size]? = some o := by
 show (w.heap.push o)[w.heap.size]? = some o
 simp
theorem bs_later {w w' : World} {g : Nat} {o : Obj} (h : w.heap[g]? = some o) (hb : Below w.heap.size w w') : w'.heap[g]? = some o := (hb.block g (blk_lt h)).trans h
theorem bs_cell (w h x y : Int) (hw : 1 ≤ w) (hw4 : w ≤ 4) (hh : 1 ≤ h) (hh4 : h ≤ 4) : impl_grid_isCell.f w h x y = some (decide (0 ≤ x ∧ x < w ∧ 0 ≤ y ∧ y < h)) := by
 unfold impl_grid_isCell.f impl_within.f
 have e1 : wrap64 (w - 1) = w - 1 := by unfold wrap64; omega
 have e2 : wrap64 (h - 1) = h - 1 := by unfold wrap64; omega
 rw [e1, e2]
 by_cases c1 : 0 ≤ x <;> by_cases c2 : x < w <;> by_cases c3 : 0 ≤ y <;> by_cases c4 : y < h <;> simp [c1, c2, c3, c4, Int.le_sub_one_iff]
set_option maxHeartbeats 4000000 in
set_option maxRecDepth 100000 in
theorem bs_one (w h x y : Int) (hw : 1 ≤ w) (hw4 : w ≤ 4) (hh : 1 ≤ h) (hh4 : h ≤ 4) (B : Nat) (W : World) (hB : W.heap[B]? = some (.cells #[.int .i64 w, .int .i64 h] 71 (0, 0))) :
  Calls Try.prog 81 #[.int .i64 x, .int .i64 y, .pointer (some ⟨B, 0, none⟩)] W fun e W' => e = .returned (.int .i64 (numAt w h x y)) ∧ Below W.heap.size W W' := by
 have k0 : W.cell? ⟨B, 0, none⟩ = some (.int .i64 w) := (blk_cell hB 0).trans rfl
 have k1 : W.cell? ⟨B, 1, none⟩ = some (.int .i64 h) := (blk_cell hB 1).trans rfl
 have HBL := Aside0.mk hB
 have hu := Try.underlying71
 clear hB
 by_cases hc : 0 ≤ x ∧ x < w ∧ 0 ≤ y ∧ y < h
 ·have C := fun W => impl_grid_isCell.calls w h x y true W (by rw [bs_cell w h x y hw hw4 hh hh4]; simp [hc])
  have HN := Aside0.mk (show numAt w h x y = y * w + x by unfold numAt; rw [if_pos hc])
  have hm : 0 ≤ y * w ∧ y * w ≤ 12 := by
   have : w = 1 ∨ w = 2 ∨ w = 3 ∨ w = 4 := by omega
   rcases this with rfl | rfl | rfl | rfl <;> omega
  obtain ⟨q1, q2, q3, q4⟩ := hc
  go_enter Try.func81, Try.ntmps81
  go_wp2_with fail
  refine (C _).mono ?_
  rintro e w1 ⟨rfl, hb⟩
  have B1 := bs_later (w := W) HBL.out hb
  have m0 : w1.cell? ⟨B, 0, none⟩ = some (.int .i64 w) := (blk_cell B1 0).trans rfl
  have HB := Aside0.mk hb
  clear k0 k1 B1 hb
  have ew : wrap64 (y * w) = y * w := by unfold wrap64; omega
  have ew2 : wrap64 (y * w + x) = y * w + x := by unfold wrap64; omega
  go_wp2_with fail
  go_ret
  exact ⟨by rw [HN.out]; first | rfl | (simp [ew, ew2]; done), HB.out⟩
 ·have C := fun W => impl_grid_isCell.calls w h x y false W (by rw [bs_cell w h x y hw hw4 hh hh4]; simp [hc])
  have HN := Aside0.mk (show numAt w h x y = -1 by unfold numAt; rw [if_neg hc])
  clear hc
  go_enter Try.func81, Try.ntmps81
  go_wp2_with fail
  refine (C _).mono ?_
  rintro e w1 ⟨rfl, hb⟩
  have HB := Aside0.mk hb
  clear k0 k1 hb
  go_wp2_with fail
  go_ret
  exact ⟨by rw [HN.out]; rfl, HB.out⟩
theorem bs_levels (w h : Int) (hw : 1 ≤ w) (hw4 : w ≤ 4) (hh : 1 ≤ h) (hh4 : h ≤ 4) : impl_grid_levels.f w h = some (w * (h + 1)) := by
 unfold impl_grid_levels.f
 have e2 : wrap64 (h + 1) = h + 1 := by unfold wrap64; omega
 rw [e2]
 have : w = 1 ∨ w = 2 ∨ w = 3 ∨ w = 4 := by omega
 rcases this with rfl | rfl | rfl | rfl <;> (congr 1; unfold wrap64; omega)
set_option maxHeartbeats 16000000 in
set_option maxRecDepth 100000 in
theorem bs_low (a0_0 a0_1 a1 : Int) (w : World) (hw : 1 ≤ a0_0) (hw4 : a0_0 ≤ 4) (hh : 1 ≤ a0_1) (hh4 : a0_1 ≤ 4) (hk : 0 ≤ a1) (hk4 : a1 ≤ 40) (hc : a1 < a0_0 * (a0_1 + 1)) :
  Calls Try.prog 77 #[.agg #[.int .i64 a0_0, .int .i64 a0_1], .int .i64 a1] w fun e w' => e = .returned (.tuple #[.int .i64 (numAt a0_0 a0_1 (a1 % a0_0) (a1 / a0_0 - 1)), .int .i64 (numAt a0_0 a0_1 (a1 % a0_0) (a1 / a0_0))]) ∧ Below w.heap.size w w' := by
 have CL := fun W => impl_grid_levels.calls a0_0 a0_1 (a0_0 * (a0_1 + 1)) W (bs_levels a0_0 a0_1 hw hw4 hh hh4)
 have CN := fun x y B W hB => bs_one a0_0 a0_1 x y hw hw4 hh hh4 B W hB
 have hq0 : 0 ≤ a1 / a0_0 := Int.ediv_nonneg hk (by omega)
 have hq1 : a1 / a0_0 ≤ 40 := Int.le_trans (Int.ediv_le_self _ hk) hk4
 have E1 := Aside0.mk (show Int.tmod a1 a0_0 = a1 % a0_0 from Int.tmod_eq_emod_of_nonneg hk)
 have E2 := Aside0.mk (show Int.tdiv a1 a0_0 = a1 / a0_0 from Int.tdiv_eq_ediv_of_nonneg hk)
 have E3 := Aside0.mk (show IntKind.i64.wrap (a1 / a0_0 - 1) = a1 / a0_0 - 1 by rw [IntKind.wrap_i64]; omega)
 have hdec : decide (a1 < a0_0 * (a0_1 + 1)) = true := decide_eq_true hc
 have hmf : ∀ (fn : Fn) (first cap : Array Value) (w : World), (Instr.makeFunc fn first cap).run Try.prog w = .ok (.func fn first cap) w := fun _ _ _ _ => rfl
 have hu := Try.underlying71
 have hne : (a0_0 == 0) = false := by simp; omega
 have hne2 : a0_0 ≠ 0 := by omega
 have E4 : IntKind.i64.wrap (a1 / a0_0) = a1 / a0_0 := by rw [IntKind.wrap_i64]; omega
 have E4' := Aside0.mk E4
 clear hc hh hh4 hw4 hq0 hq1
 go_enter Try.func77, Try.ntmps77
 go_wp2_with fail
 refine (CL _).mono ?_
 rintro e w1 ⟨rfl, hb⟩
 have B1 := bs_later (bs_new w _) hb
 have m0 : w1.cell? ⟨w.heap.size, 0, none⟩ = some (.int .i64 _) := (blk_cell B1 0).trans rfl
 have HX := Aside0.mk B1
 have HB := Aside0.mk (below_step (below_alloc (Below.refl w.heap.size w) _) hb)
 clear B1 hb CL
 go_wp2_with fail
 go_region_held3 (fun W => W.cell? ⟨w.heap.size, 0, none⟩ = some (.int .i64 a0_0))
  (first
   | exact (blk_cell (bs_later (bs_later (w := w1.drew) (blk_drew HX.out) hb) hb2) 0).trans rfl
   | exact (blk_cell (bs_later (w := w1.drew) (blk_drew HX.out) hb) 0).trans rfl
   | go_keep)
  (first
   | (go_at_call 81; refine (CN _ _ _ _ (blk_drew HX.out)).mono ?_; rintro e w2 ⟨rfl, hb⟩)
   | (go_at_call 81; refine (CN _ _ _ _ (bs_later (w := w1.drew) (blk_drew HX.out) hb)).mono ?_; rintro e w3 ⟨rfl, hb2⟩))
 all_goals
  have HB3 := Aside0.mk (below_step (below_step (below_drew1 HB.out) hb) hb2)
  clear hb hb2 HX HB
  go_wp2_with fail
  go_ret2
  refine ⟨?_, HB3.out⟩
  (try simp only [E1.out, E2.out, E4'.out, E3.out])
  rfl
set_option maxHeartbeats 16000000 in
set_option maxRecDepth 100000 in
theorem bs_high (a0_0 a0_1 a1 L : Int) (w : World) (hw : 1 ≤ a0_0) (hw4 : a0_0 ≤ 4) (hh : 1 ≤ a0_1) (hh4 : a0_1 ≤ 4) (hk : 0 ≤ a1) (hk4 : a1 ≤ 40) (hL : a0_0 * (a0_1 + 1) = L) (hc : L ≤ a1) :
  Calls Try.prog 77 #[.agg #[.int .i64 a0_0, .int .i64 a0_1], .int .i64 a1] w fun e w' => e = .returned (.tuple #[.int .i64 (numAt a0_0 a0_1 ((a1 - L) % (a0_0 + 1) - 1) ((a1 - L) / (a0_0 + 1))), .int .i64 (numAt a0_0 a0_1 ((a1 - L) % (a0_0 + 1)) ((a1 - L) / (a0_0 + 1)))]) ∧ Below w.heap.size w w' := by
 have CL := fun W => impl_grid_levels.calls a0_0 a0_1 L W (by rw [← hL]; exact bs_levels a0_0 a0_1 hw hw4 hh hh4)
 have CN := fun x y B W hB => bs_one a0_0 a0_1 x y hw hw4 hh hh4 B W hB
 have hL0 : 0 ≤ L := by rw [← hL]; exact Int.mul_nonneg (by omega) (by omega)
 clear hL hh hh4
 have hdec : decide (a1 < L) = false := decide_eq_false (by omega)
 have hr0 : 0 ≤ a1 - L := by omega
 have hr4 : a1 - L ≤ 40 := by omega
 have E0 : IntKind.i64.wrap (a1 - L) = a1 - L := by rw [IntKind.wrap_i64]; omega
 have E5 : IntKind.i64.wrap (a0_0 + 1) = a0_0 + 1 := by rw [IntKind.wrap_i64]; omega
 have E0' : wrap64 (a1 - L) = a1 - L := by unfold wrap64; omega
 have E5' : wrap64 (a0_0 + 1) = a0_0 + 1 := by unfold wrap64; omega
 have hm0 := Int.emod_nonneg (a1 - L) (show a0_0 + 1 ≠ 0 by omega)
 have hm1 := Int.emod_lt_of_pos (a1 - L) (show 0 < a0_0 + 1 by omega)
 have hmf : ∀ (fn : Fn) (first cap : Array Value) (w : World), (Instr.makeFunc fn first cap).run Try.prog w = .ok (.func fn first cap) w := fun _ _ _ _ => rfl
 have hu := Try.underlying71
 generalize hR : a1 - L = R at *
 have E1 := Aside0.mk (show Int.tmod R (a0_0 + 1) = R % (a0_0 + 1) from Int.tmod_eq_emod_of_nonneg hr0)
 have E2 := Aside0.mk (show Int.tdiv R (a0_0 + 1) = R / (a0_0 + 1) from Int.tdiv_eq_ediv_of_nonneg hr0)
 have E3 : IntKind.i64.wrap (R % (a0_0 + 1) - 1) = R % (a0_0 + 1) - 1 := by rw [IntKind.wrap_i64]; omega
 have hq0 : 0 ≤ R / (a0_0 + 1) := Int.ediv_nonneg hr0 (by omega)
 have hq1 : R / (a0_0 + 1) ≤ 40 := Int.le_trans (Int.ediv_le_self _ hr0) hr4
 have E4 : IntKind.i64.wrap (R / (a0_0 + 1)) = R / (a0_0 + 1) := by rw [IntKind.wrap_i64]; omega
 have hne2 : a0_0 + 1 ≠ 0 := by omega
 have E6 := Aside0.mk (show wrap64 (R / (a0_0 + 1)) = R / (a0_0 + 1) by unfold wrap64; omega)
 have hne : (a0_0 + 1 == 0) = false := by simp; omega
 clear hm0 hm1 hw4 hr4 hk4 hc hq0 hq1
 go_enter Try.func77, Try.ntmps77
 go_wp2_with fail
 refine (CL _).mono ?_
 rintro e w1 ⟨rfl, hb⟩
 have B1 := bs_later (bs_new w _) hb
 have m0 : w1.cell? ⟨w.heap.size, 0, none⟩ = some (.int .i64 _) := (blk_cell B1 0).trans rfl
 have m1 : w1.cell? ⟨w.heap.size, 1, none⟩ = some (.int .i64 _) := (blk_cell B1 1).trans rfl
 have HX := Aside0.mk B1
 have HB := Aside0.mk (below_step (below_alloc (Below.refl w.heap.size w) _) hb)
 clear B1 hb
 go_wp2_with fail
 refine (CL _).mono ?_
 rintro e w2 ⟨rfl, hb⟩
 have HX2 := Aside0.mk (bs_later HX.out hb)
 have HB2 := Aside0.mk (below_step HB.out hb)
 have m2 : w2.cell? ⟨w.heap.size, 0, none⟩ = some (.int .i64 _) := (blk_cell HX2.out 0).trans rfl
 clear hb HX HB m0 m1
 go_wp2_with fail
 go_quiet (fail)
 go_wp2_with fail
 refine (CN _ _ _ _ (blk_drewN HX2.out _)).mono ?_
 rintro e w3 ⟨rfl, hb⟩
 go_wp2_with fail
 refine (CN _ _ _ _ (bs_later (blk_drewN HX2.out _) hb)).mono ?_
 rintro e w4 ⟨rfl, hb2⟩
 have HB3 := Aside0.mk (below_step (below_step (pw_below_drewN HB2.out _) hb) hb2)
 clear hb hb2 HX2 HB2
 go_wp2_with fail
 go_ret2
 refine ⟨?_, HB3.out⟩
 simp only [E2.out, E6.out]
 rfl
theorem impl_grid_beside.calls (a0_0 : Int) (a0_1 : Int) (a1 : Int) (r1 : Int) (r2 : Int) (w : World) (h : impl_grid_beside.f a0_0 a0_1 a1 = some (r1, r2)) :
  Calls Try.prog 77 #[.agg #[.int .i64 a0_0, .int .i64 a0_1], .int .i64 a1] w fun e w' => e = .returned (.tuple #[.int .i64 r1, .int .i64 r2]) ∧ Below w.heap.size w w' := by
 unfold impl_grid_beside.f at h
 by_cases hc : 1 ≤ a0_0 ∧ a0_0 ≤ 4 ∧ 1 ≤ a0_1 ∧ a0_1 ≤ 4 ∧ 0 ≤ a1 ∧ a1 ≤ 40
 ·rw [if_pos hc] at h
  obtain ⟨q1, q2, q3, q4, q5, q6⟩ := hc
  unfold sides at h
  by_cases hl : a1 < a0_0 * (a0_1 + 1)
  ·rw [if_pos hl] at h
   simp only [Option.some.injEq, Prod.mk.injEq] at h
   obtain ⟨rfl, rfl⟩ := h
   exact bs_low a0_0 a0_1 a1 w q1 q2 q3 q4 q5 q6 hl
  ·rw [if_neg hl] at h
   simp only [Option.some.injEq, Prod.mk.injEq] at h
   obtain ⟨rfl, rfl⟩ := h
   exact bs_high a0_0 a0_1 a1 _ w q1 q2 q3 q4 q5 q6 rfl (Int.not_lt.mp hl)
 ·rw [if_neg hc] at h; cases h

end Go.Proofs.Ytkmebbadjejheaa.E
