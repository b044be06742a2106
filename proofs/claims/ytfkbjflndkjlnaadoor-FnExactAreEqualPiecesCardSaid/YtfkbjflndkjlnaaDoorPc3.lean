import Derived.Test.YtfkbjflndkjlnaaDoorPd
import Derived.Test.YtfkbjflndkjlnaaDoorPc1
import Derived.Test.YtfkbjflndkjlnaaDoorPc2
namespace Go.Proofs.YtfkbjflndkjlnaaDoor.P
open Go.RowKit Go.Proofs.YtfkbjflndkjlnaaDoorW.PrintWords Go.Proofs.YtfkbjflndkjlnaaDoorW.PrintLast Go.Proofs.YtfkbjflndkjlnaaDoorW.PrintMore
attribute [local go_sem] max2_int min2_int max_two min_two max_three min_three max_four min_four
set_option linter.unusedVariables false
set_option linter.unusedSimpArgs false

/-! ### spec_piGroups: function 71 -/
def spec_piGroups.T17 : Bool × List (List Nat × List Nat) := (true, [([], []), ([0], [0]), ([], []), ([2], [2]), ([1, 3], [1, 3]), ([4], [4]), ([5], [5]), ([5], [5]), ([5], [5]), ([6, 7, 8, 5, 5], [5, 6, 7, 8]), ([5, 9], [5, 9]), ([10, 9], [10]), ([11], [11]), ([11], [11]), ([12, 13, 11], [11, 12, 13]), ([14, 11], [11, 14]), ([11], [11]), ([11], [11]), ([17, 11], [11, 17]), ([16, 18, 11], [11, 16, 18]), ([19, 11], [11, 19]), ([15, 20, 11], [11, 15, 20]), ([11, 21], [11, 21])])
def spec_piGroups.B17 : List Nat := [0, 1, 0, 4, 15, 31, 63, 63, 63, 511, 1023, 2047, 4095, 4095, 16383, 32767, 4095, 4095, 135167, 462847, 987135, 2097151, 4194303]
theorem spec_piGroups.tab17 : rtab .any (opsOf Tryd.f71 17) = spec_piGroups.T17 := by kernel_rfl
theorem spec_piGroups.bits17 : waitsOk spec_piGroups.T17.2 spec_piGroups.B17 = true := by kernel_rfl
def spec_piGroups.T18 : Bool × List (List Nat × List Nat) := (true, [([], []), ([], []), ([0, 1], [0, 1]), ([2], [2]), ([], []), ([], []), ([5], [5]), ([4, 6], [4, 6]), ([7], [7]), ([3, 8], [3, 8]), ([9, 9, 0, 1, 2, 3, 4, 5, 6, 7, 8, 9], [9])])
def spec_piGroups.B18 : List Nat := [0, 0, 3, 7, 0, 0, 32, 112, 240, 511, 1023]
theorem spec_piGroups.tab18 : rtab .any (opsOf Tryd.f71 18) = spec_piGroups.T18 := by kernel_rfl
theorem spec_piGroups.bits18 : waitsOk spec_piGroups.T18.2 spec_piGroups.B18 = true := by kernel_rfl
def spec_piGroups.T22 : Bool × List (List Nat × List Nat) := (true, [([], []), ([0], [0]), ([], []), ([2], [2]), ([1, 3], [1, 3]), ([4], [4]), ([5], [5]), ([5], [5]), ([5], [5]), ([6, 7, 8, 5, 5], [5, 6, 7, 8]), ([5, 9], [5, 9]), ([10, 9], [10]), ([11], [11]), ([11], [11]), ([12, 13, 11], [11, 12, 13]), ([14, 11], [11, 14]), ([11], [11]), ([11], [11]), ([11], [11]), ([18, 11], [11, 18]), ([17, 19, 11], [11, 17, 19]), ([16, 20, 11], [11, 16, 20]), ([21, 11], [11, 21]), ([15, 22, 11], [11, 15, 22]), ([11, 23], [11, 23])])
def spec_piGroups.B22 : List Nat := [0, 1, 0, 4, 15, 31, 63, 63, 63, 511, 1023, 2047, 4095, 4095, 16383, 32767, 4095, 4095, 4095, 266239, 921599, 2035711, 4132863, 8388607, 16777215]
theorem spec_piGroups.tab22 : rtab .any (opsOf Tryd.f71 22) = spec_piGroups.T22 := by kernel_rfl
theorem spec_piGroups.bits22 : waitsOk spec_piGroups.T22.2 spec_piGroups.B22 = true := by kernel_rfl
def spec_piGroups.T23 : Bool × List (List Nat × List Nat) := (true, [([], []), ([], []), ([0, 1], [0, 1]), ([2], [2]), ([], []), ([], []), ([], []), ([6], [6]), ([5, 7], [5, 7]), ([4, 8], [4, 8]), ([9], [9]), ([3, 10], [3, 10]), ([11, 11, 0, 1, 2, 3, 4, 5, 6, 7, 8, 9, 10, 11], [11])])
def spec_piGroups.B23 : List Nat := [0, 0, 3, 7, 0, 0, 0, 64, 224, 496, 1008, 2047, 4095]
theorem spec_piGroups.tab23 : rtab .any (opsOf Tryd.f71 23) = spec_piGroups.T23 := by kernel_rfl
theorem spec_piGroups.bits23 : waitsOk spec_piGroups.T23.2 spec_piGroups.B23 = true := by kernel_rfl
set_option maxHeartbeats 8000000 in
set_option maxRecDepth 100000 in
theorem spec_piGroups.calls (k : Nat) (a0_0 : Int) (a0_1 : Int) (A0_2 : Option Addr) (c0_2 : Nat) (l0_2 : List Int) (A0_3 : Option Addr) (c0_3 : Nat) (l0_3 : List Int) (r : List Int) (w : World) (hr0_2 : Kd.C (Kd.int .i64) w A0_2 l0_2.length l0_2) (hc0_2 : l0_2.length ≤ c0_2) (hr0_3 : Kd.C (Kd.int .i64) w A0_3 l0_3.length l0_3) (hc0_3 : l0_3.length ≤ c0_3) (h : spec_piGroups.f k a0_0 a0_1 l0_2 l0_3 = some r) :
  Calls Tryd.prog 71 #[.agg #[.int .i64 a0_0, .int .i64 a0_1, .slice A0_2 l0_2.length c0_2, .slice A0_3 l0_3.length c0_3]] w fun e w' => ∃ v0_ : Value, e = .returned (v0_) ∧ Kd.R (Kd.int .i64) 3 w' w.heap.size (fun _ => True) v0_ r ∧ Below w.heap.size w w' := by
 have hu30 := Tryd.underlying30
 have HR0_2 := Aside0.mk hr0_2
 have HC0_2 := Aside0.mk hc0_2
 clear hr0_2 hc0_2
 have HR0_3 := Aside0.mk hr0_3
 have HC0_3 := Aside0.mk hc0_3
 clear hr0_3 hc0_3
 have HB := Aside0.mk (Below.refl w.heap.size w)
 have H : (if 0 ≤ (wrap64 (a0_0 * a0_1)) then (if (wrap64 (a0_0 * a0_1) : Int).toNat ≤ 35184372088832 then ((some (List.replicate (wrap64 (a0_0 * a0_1) : Int).toNat 0 : List Int)).bind fun y162 => (spec_piGroups.l0 k y162 (y162.length : Int) 0 a0_0 a0_1 l0_2 l0_3)) else (none)) else (none)) = some r := h
 clear h
 obtain ⟨ji2, hji2⟩ : ∃ j_ : Int, (wrap64 (a0_0 * a0_1)) = j_ := ⟨_, rfl⟩
 replace H : (if 0 ≤ (ji2) then (if (ji2 : Int).toNat ≤ 35184372088832 then ((some (List.replicate (ji2 : Int).toNat 0 : List Int)).bind fun y162 => (spec_piGroups.l0 k y162 (y162.length : Int) 0 a0_0 a0_1 l0_2 l0_3)) else (none)) else (none)) = some r := by first | (rw [hji2] at H; exact H) | (simp only [hji2] at H ⊢; exact H)
 have hji2w : (IntKind.i64.wrap (a0_0 * a0_1)) = ji2 := (i64_w _).trans hji2
 by_cases c3 : 0 ≤ (ji2)
 ·rw [if_pos c3] at H
  have c3b0 := eq_true c3
  have c3b1 : decide (0 ≤ (ji2)) = true := decide_eq_true c3
  clear c3
  by_cases c4 : (ji2 : Int).toNat ≤ 35184372088832
  ·rw [if_pos c4] at H
   have c4b0 := eq_true c4
   have c4b1 : decide ((ji2 : Int).toNat ≤ 35184372088832) = true := decide_eq_true c4
   clear c4
   obtain ⟨y162, hy162⟩ : ∃ y_ : List Int, y_ = (List.replicate (ji2 : Int).toNat 0) := ⟨_, rfl⟩
   replace H : (spec_piGroups.l0 k y162 (y162.length : Int) 0 a0_0 a0_1 l0_2 l0_3) = some r := by first | (rw [hy162]; with_reducible exact H) | (have H2_ := (Option.bind_some _ _).symm.trans H; rw [hy162]; with_reducible exact H2_) | (have H2_ := (Option.bind_some _ _).symm.trans H; with_reducible exact H2_) | with_reducible exact H | (rw [hy162]; exact H) | exact H
   have Ny162 := Aside0.mk hy162
   clear hy162
   have H' := Aside0.mk H
   clear H
   go_enter Tryd.func71, Tryd.ntmps71
   go_wp2_with (first | ((with_reducible refine gate_dst (N := 1) rfl ?_); refine zbx 1 #[.int .i64 a0_0, .int .i64 a0_1, .slice A0_2 l0_2.length c0_2, .slice A0_3 l0_3.length c0_3] 30 ?_; intro gb161 hg w5 hbox hb; have BK161 := Aside0.mk (hbox); have GW161 := zGe hg; have GE161 := zGe hg; replace HB := zBb hb; clear hb hbox hg; obtain ⟨hcz6_0, hcz6_1, hcz6_2, hcz6_3, hfz6_0, hfz6_1, hfz6_2, hfz6_3⟩ := blk4 BK161) | ((with_reducible refine gate_dst (N := 16) rfl ?_); refine Kd.R_make (Kd.int .i64) _ 3 rfl (N := 16) rfl 25 _ _ rfl ji2 rfl rfl Tryd.underlying25 (.int .i64 0) 8 info3 rfl (by decide) (by omega) 0 (ok := fun _ => True) (okp := fun _ => True) rfl (fun _ hk => hk) trivial (of_decide_eq_true (by assumption)) (Nat.le_trans (Nat.mul_le_mul_right _ (of_decide_eq_true (by assumption) : ji2.toNat ≤ 35184372088832)) (by omega)) (Below.refl _ _) (Nat.le_refl _) ?_; intro v163 w7 ho8 hb hg_ hnew_; clear hg_ hnew_; (first | rw [← Ny162.out] at ho8 | (simp only [Int.reduceToNat] at ho8; rw [← Ny162.out] at ho8)); have HO164 := Aside0.mk (Kd.R_lower ho8 (below_size zB)); replace BK161 := zKb BK161 hb; replace HB := zBb hb; clear hb ho8; obtain ⟨Ao9, co9, eo9⟩ := Kd.R_slice HO164.out; subst eo9))
   go_loopg [19] k (fun kq v19 w' => ∃ (x3_1 : List Int) (x19_1 : Int), v19 = .int .i64 x19_1 ∧ Aside0 (spec_piGroups.l0 kq x3_1 (y162.length : Int) x19_1 a0_0 a0_1 l0_2 l0_3 = some r) ∧ Aside0 (kq ≤ k) ∧ Aside0 (Kd.R (Kd.int .i64) 3 w' w.heap.size (fun _ => True) (.slice Ao9 y162.length co9) x3_1) ∧ Aside0 (w'.heap[gb161]? = some (.cells #[.int .i64 a0_0, .int .i64 a0_1, (.slice A0_2 l0_2.length c0_2), (.slice A0_3 l0_3.length c0_3)] 30 (0, 0))) ∧ Aside0 (Below w.heap.size w w'))
   case atStart => exact ⟨(y162), (0), zA, H', ⟨Nat.le_refl _⟩, ⟨zR HO164⟩, ⟨zK BK161⟩, ⟨zB⟩⟩
   case round =>
    clear H'
    (try clear p2); (try clear c3); (try clear c3b0); (try clear c3b1); (try clear c4); (try clear c4b0); (try clear c4b1); (try clear p6); (try clear c7); (try clear hcz6_0); (try clear hcz6_1); (try clear hcz6_2); (try clear hcz6_3); (try clear hfz6_0); (try clear hfz6_1); (try clear hfz6_2); (try clear hfz6_3)
    obtain ⟨x3_1, x19_1, rfl, HA, HK1, HO_3, BK161, HB⟩ := hrel
    have hl3_1 := (Kd.R_reads' HO_3.out).1
    rw [hl3_1] at HO_3
    (try simp only [hl3_1])
    (try simp only [hl3_1] at BK161)
    cases gk with
    | zero => exact absurd HA.out (by simp [spec_piGroups.l0])
    | succ k1 =>
     have H := HA.out
     clear HA
     simp only [spec_piGroups.l0] at H
     by_cases c10 : x19_1 < (y162.length : Int)
     ·rw [if_pos c10] at H
      have c10b0 : decide (x19_1 < (y162.length : Int)) = true := decide_eq_true c10
      (try simp only [hl3_1] at c10b0)
      clear c10
      by_cases c11 : 0 ≤ x19_1
      ·rw [if_pos c11] at H
       have c11b0 : decide (0 ≤ x19_1) = true := decide_eq_true c11
       clear c11
       by_cases c12 : x19_1 < (x3_1.length : Int)
       ·rw [if_pos c12] at H
        have c12b0 : decide (x19_1 < (x3_1.length : Int)) = true := decide_eq_true c12
        (try simp only [hl3_1] at c12b0)
        clear c12
        obtain ⟨y165, hy165⟩ : ∃ y_ : List Int, y_ = (x3_1.set (x19_1 : Int).toNat x19_1) := ⟨_, rfl⟩
        replace H : (spec_piGroups.l0 k1 y165 (y162.length : Int) (wrap64 (x19_1 + 1)) a0_0 a0_1 l0_2 l0_3) = some r := by first | (rw [hy165]; with_reducible exact H) | (have H2_ := (Option.bind_some _ _).symm.trans H; rw [hy165]; with_reducible exact H2_) | (have H2_ := (Option.bind_some _ _).symm.trans H; with_reducible exact H2_) | with_reducible exact H | (rw [hy165]; exact H) | exact H
        have Ny165 := Aside0.mk hy165
        clear hy165
        have H' := Aside0.mk H
        clear H
        have p13 : 0 ≤ (x19_1 : Int) := of_decide_eq_true (by assumption)
        have q13 : (x19_1 : Int) < ((x3_1.length : Int) : Int) := of_decide_eq_true (by assumption)
        obtain ⟨go13, co13, eo13, gb13, gl13, cl13, HG13⟩ := Kd.R_form HO_3.out (by omega)
        (first | cases eo13 | (injection eo13 with ea_ en_ ec_; (first | subst ea_ | (injection ea_ with ea_; subst ea_)); subst ec_; clear en_))
        have GB13 := Aside0.mk gb13
        have GG13 := Aside0.mk HG13
        clear gb13 gl13 HG13
        obtain ⟨hx13_0, hf13_0⟩ := Kd.R_celln 0 HO_3.out (x19_1 : Int) p13 q13
        replace p13 := eq_true p13
        replace q13 := eq_true q13
        have HP14 := Kd.R_putg HO_3.out (x19_1 : Int) x19_1
        go_wp2_with (first | ((with_reducible refine gate_store (t := 3) (p := 25) rfl ?_); refine store_event (t := 3) (p := 25) (v := ?vo_w15) (w1 := (wr.setCell ⟨go13, (x19_1 : Int).toNat, none⟩ (.int .i64 x19_1))) ?hg ?ho ?hn ?hr ?_; (case ho => rfl); (case hg => rfl); (case hn => rfl); (case hr => first | (go_simp; done) | (go_simp; rfl)); intro w15 hw; have hg : wr.grownBy w15 (some go13) := (by rw [hw]; exact HP14.2); have hp_ : Kd.R (Kd.int .i64) 3 w15 w.heap.size (fun _ => True) (.slice (some ⟨go13, 0, none⟩) x3_1.length co9) y165 := (by rw [hw, Ny165.out]; exact HP14.1); clear HP14; replace BK161 := Aside0.mk (blk_grown (g := gb161) (o := .cells #[.int .i64 a0_0, .int .i64 a0_1, .slice A0_2 l0_2.length c0_2, .slice A0_3 l0_3.length c0_3] 30 (0, 0)) (zK BK161) hg (Kd.R_ne HO_3.out BK161.out (by decide))); replace HO_3 := Aside0.mk (hp_); replace HB := Aside0.mk ((by rw [hw]; exact below_set (HB.out) GB13.out : Below w.heap.size w w15)); clear hg hw hp_))
        (try simp only [← hl3_1])
        first | go_roundg k1 | ((try subst hji2); go_roundg k1)
        case measure => have := HK1.out; omega
        case rel => exact ⟨(y165), (wrap64 (x19_1 + 1)), zA, H', ⟨by have := HK1.out; omega⟩, ⟨by (try simp only [hl3_1]); (with_reducible repeat (first | apply Kd.R_alloc | apply Kd.R_drewN | apply Kd.R_drew)); exact HO_3.out⟩, ⟨by (try simp only [hl3_1]); (with_reducible repeat (first | refine blk_drewN ?_ _ | refine blk_drew ?_ | refine blk_alloc ?_ _)); exact BK161.out⟩, ⟨zB⟩⟩
       ·rw [if_neg c12] at H
        exact absurd H (by simp)
      ·rw [if_neg c11] at H
       exact absurd H (by simp)
     ·rw [if_neg c10] at H
      have c10b0 : decide (x19_1 < (y162.length : Int)) = false := decide_eq_false c10
      (try simp only [hl3_1] at c10b0)
      clear c10
      have H' := Aside0.mk H
      clear H
      go_wp2
      go_loopg [5] k1 (fun kq v5 w' => ∃ (x3_2 : List Int) (x5_2 : Bool), v5 = .bool x5_2 ∧ Aside0 (spec_piGroups.l1 kq x3_2 x5_2 a0_0 a0_1 l0_2 l0_3 = some r) ∧ Aside0 (kq ≤ k1) ∧ Aside0 (Kd.R (Kd.int .i64) 3 w' w.heap.size (fun _ => True) (.slice Ao9 x3_1.length co9) x3_2) ∧ Aside0 (w'.heap[gb161]? = some (.cells #[.int .i64 a0_0, .int .i64 a0_1, (.slice A0_2 l0_2.length c0_2), (.slice A0_3 l0_3.length c0_3)] 30 (0, 0))) ∧ Aside0 (Below w.heap.size w w'))
      case atStart => exact ⟨(x3_1), (true), zA, H', ⟨Nat.le_refl _⟩, ⟨by (try simp only [hl3_1]); (with_reducible repeat (first | apply Kd.R_alloc | apply Kd.R_drewN | apply Kd.R_drew)); exact HO_3.out⟩, ⟨by (try simp only [hl3_1]); (with_reducible repeat (first | refine blk_drewN ?_ _ | refine blk_drew ?_ | refine blk_alloc ?_ _)); exact BK161.out⟩, ⟨zB⟩⟩
      case round =>
       clear H'
       (try clear c1); (try clear p1); (try clear q1); (try clear hx1); (try clear hf1); (try clear p2); (try clear c3); (try clear c3b0); (try clear c3b1); (try clear c4); (try clear c4b0); (try clear c4b1); (try clear p6); (try clear c7); (try clear c10); (try clear c10b0); (try clear c11); (try clear c11b0); (try clear c12); (try clear c12b0); (try clear p13); (try clear q13); (try clear hx13); (try clear hf13); (try clear hcz6_0); (try clear hcz6_1); (try clear hcz6_2); (try clear hcz6_3); (try clear hfz6_0); (try clear hfz6_1); (try clear hfz6_2); (try clear hfz6_3); (try clear hx13_0); (try clear p13); (try clear p2); (try clear p6); (try clear q13)
       obtain ⟨x3_2, x5_2, rfl, HA, HK2, HO_3, BK161, HB⟩ := hrel
       have hl3_2 := (Kd.R_reads' HO_3.out).1
       rw [hl3_2] at HO_3
       (try simp only [hl3_2])
       (try simp only [hl3_2] at BK161)
       cases gk with
       | zero => exact absurd HA.out (by simp [spec_piGroups.l1])
       | succ k2 =>
        have H := HA.out
        clear HA
        simp only [spec_piGroups.l1] at H
        by_cases c16 : x5_2 = true
        ·subst c16
         have H1 : (spec_piGroups.l2 k2 x3_2 false 0 a0_0 a0_1 l0_2 l0_3) = some r := by rw [if_pos rfl] at H; exact H
         clear H
         have H := H1
         clear H1
         have H' := Aside0.mk H
         clear H
         go_wp2
         go_loopg [5, 6] k2 (fun kq v5 v6 w' => ∃ (x3_3 : List Int) (x5_3 : Bool) (x6_3 : Int), v5 = .bool x5_3 ∧ v6 = .int .i64 x6_3 ∧ Aside0 (spec_piGroups.l2 kq x3_3 x5_3 x6_3 a0_0 a0_1 l0_2 l0_3 = some r) ∧ Aside0 (kq ≤ k2) ∧ Aside0 (Kd.R (Kd.int .i64) 3 w' w.heap.size (fun _ => True) (.slice Ao9 x3_2.length co9) x3_3) ∧ Aside0 (w'.heap[gb161]? = some (.cells #[.int .i64 a0_0, .int .i64 a0_1, (.slice A0_2 l0_2.length c0_2), (.slice A0_3 l0_3.length c0_3)] 30 (0, 0))) ∧ Aside0 (Below w.heap.size w w'))
         case atStart => exact ⟨(x3_2), (false), (0), zA, zA, H', ⟨Nat.le_refl _⟩, ⟨by (try simp only [hl3_1]); (try simp only [hl3_2]); (with_reducible repeat (first | apply Kd.R_alloc | apply Kd.R_drewN | apply Kd.R_drew)); exact HO_3.out⟩, ⟨by (try simp only [hl3_1]); (try simp only [hl3_2]); (with_reducible repeat (first | refine blk_drewN ?_ _ | refine blk_drew ?_ | refine blk_alloc ?_ _)); exact BK161.out⟩, ⟨zB⟩⟩
         case round =>
          clear H'
          (try clear c1); (try clear p1); (try clear q1); (try clear hx1); (try clear hf1); (try clear p2); (try clear c3); (try clear c3b0); (try clear c3b1); (try clear c4); (try clear c4b0); (try clear c4b1); (try clear p6); (try clear c7); (try clear c10); (try clear c10b0); (try clear c11); (try clear c11b0); (try clear c12); (try clear c12b0); (try clear p13); (try clear q13); (try clear hx13); (try clear hf13); (try clear c16); (try clear hcz6_0); (try clear hcz6_1); (try clear hcz6_2); (try clear hcz6_3); (try clear hfz6_0); (try clear hfz6_1); (try clear hfz6_2); (try clear hfz6_3); (try clear hx13_0); (try clear p1); (try clear p13); (try clear p2); (try clear p6); (try clear q1); (try clear q13)
          obtain ⟨x3_3, x5_3, x6_3, rfl, rfl, HA, HK3, HO_3, BK161, HB⟩ := hrel
          have hl3_3 := (Kd.R_reads' HO_3.out).1
          rw [hl3_3] at HO_3
          (try simp only [hl3_3])
          (try simp only [hl3_3] at BK161)
          cases gk with
          | zero => exact absurd HA.out (by simp [spec_piGroups.l2])
          | succ k3 =>
           have H := HA.out
           clear HA
           simp only [spec_piGroups.l2] at H
           by_cases c17 : x6_3 < a0_1
           ·rw [if_pos c17] at H
            have c17b0 : decide (x6_3 < a0_1) = true := decide_eq_true c17
            clear c17
            have H' := Aside0.mk H
            clear H
            obtain ⟨hcz18_0, hcz18_1, hcz18_2, hcz18_3, hfz18_0, hfz18_1, hfz18_2, hfz18_3⟩ := blk4 BK161
            go_wp2
            go_loopg [5, 7] k3 (fun kq v5 v7 w' => ∃ (x3_4 : List Int) (x5_4 : Bool) (x7_4 : Int), v5 = .bool x5_4 ∧ v7 = .int .i64 x7_4 ∧ Aside0 (spec_piGroups.l3 kq x3_4 x5_4 x6_3 x7_4 a0_0 a0_1 l0_2 l0_3 = some r) ∧ Aside0 (kq ≤ k3) ∧ Aside0 (Kd.R (Kd.int .i64) 3 w' w.heap.size (fun _ => True) (.slice Ao9 x3_3.length co9) x3_4) ∧ Aside0 (w'.heap[gb161]? = some (.cells #[.int .i64 a0_0, .int .i64 a0_1, (.slice A0_2 l0_2.length c0_2), (.slice A0_3 l0_3.length c0_3)] 30 (0, 0))) ∧ Aside0 (Below w.heap.size w w'))
            case atStart => exact ⟨(x3_3), (x5_3), (0), zA, zA, H', ⟨Nat.le_refl _⟩, ⟨by (try simp only [hl3_1]); (try simp only [hl3_2]); (try simp only [hl3_3]); (with_reducible repeat (first | apply Kd.R_alloc | apply Kd.R_drewN | apply Kd.R_drew)); exact HO_3.out⟩, ⟨by (try simp only [hl3_1]); (try simp only [hl3_2]); (try simp only [hl3_3]); (with_reducible repeat (first | refine blk_drewN ?_ _ | refine blk_drew ?_ | refine blk_alloc ?_ _)); exact BK161.out⟩, ⟨zB⟩⟩
            case round =>
             clear H'
             (try clear c1); (try clear p1); (try clear q1); (try clear hx1); (try clear hf1); (try clear p2); (try clear c3); (try clear c3b0); (try clear c3b1); (try clear c4); (try clear c4b0); (try clear c4b1); (try clear p6); (try clear c7); (try clear c10); (try clear c10b0); (try clear c11); (try clear c11b0); (try clear c12); (try clear c12b0); (try clear p13); (try clear q13); (try clear hx13); (try clear hf13); (try clear c16); (try clear c17); (try clear c17b0); (try clear hcz18_0); (try clear hcz18_1); (try clear hcz18_2); (try clear hcz18_3); (try clear hcz6_0); (try clear hcz6_1); (try clear hcz6_2); (try clear hcz6_3); (try clear hfz18_0); (try clear hfz18_1); (try clear hfz18_2); (try clear hfz18_3); (try clear hfz6_0); (try clear hfz6_1); (try clear hfz6_2); (try clear hfz6_3); (try clear hx13_0); (try clear p1); (try clear p13); (try clear p2); (try clear p6); (try clear q1); (try clear q13)
             obtain ⟨x3_4, x5_4, x7_4, rfl, rfl, HA, HK4, HO_3, BK161, HB⟩ := hrel
             have hl3_4 := (Kd.R_reads' HO_3.out).1
             rw [hl3_4] at HO_3
             (try simp only [hl3_4])
             (try simp only [hl3_4] at BK161)
             cases gk with
             | zero => exact absurd HA.out (by simp [spec_piGroups.l3])
             | succ k4 =>
              have H := HA.out
              clear HA
              simp only [spec_piGroups.l3] at H
              by_cases c19 : x7_4 < a0_0
              ·rw [if_pos c19] at H
               have c19b0 : decide (x7_4 < a0_0) = true := decide_eq_true c19
               clear c19
               have HC20 := Aside0.mk H
               clear H
               obtain ⟨hcz21_0, hcz21_1, hcz21_2, hcz21_3, hfz21_0, hfz21_1, hfz21_2, hfz21_3⟩ := blk4 BK161
               go_upto_region 17 with (fail)
               go_cut [68] (fun v68 wc => ∃ (kq : Nat) (x68_19 : Bool), v68 = .bool x68_19 ∧ Aside0 (spec_piGroups.j4 kq x3_4 x5_4 x6_3 x7_4 (wrap64 ((wrap64 (x6_3 * a0_0)) + x7_4)) x68_19 a0_0 a0_1 l0_2 l0_3 = some r) ∧ Aside0 (kq ≤ k4) ∧ Aside0 (Kd.R (Kd.int .i64) 3 wc w.heap.size (fun _ => True) (.slice Ao9 x3_4.length co9) x3_4) ∧ Aside0 (wc.heap[gb161]? = some (.cells #[.int .i64 a0_0, .int .i64 a0_1, (.slice A0_2 l0_2.length c0_2), (.slice A0_3 l0_3.length c0_3)] 30 (0, 0))) ∧ Aside0 (Below w.heap.size w wc))
               case first =>
                have H := HC20.out
                clear HC20
                by_cases c22 : (wrap64 (x7_4 + 1)) < a0_0
                ·rw [if_pos c22] at H
                 have c22b0 : decide ((wrap64 (x7_4 + 1)) < a0_0) = true := decide_eq_true c22
                 clear c22
                 (first | rw [c22b0] | (simp only [i64_w, i32_w]; rw [c22b0]) | skip)
                 replace H := Option.bind_eq_some_iff.mp H
                 obtain ⟨t166, A230, H⟩ := H
                 replace H : (if t166 = true then (if 0 ≤ (wrap64 ((wrap64 (x6_3 * a0_0)) + x7_4)) then (if (wrap64 ((wrap64 (x6_3 * a0_0)) + x7_4)) < (x3_4.length : Int) then (if 0 ≤ (wrap64 ((wrap64 ((wrap64 (x6_3 * a0_0)) + x7_4)) + 1)) then (if (wrap64 ((wrap64 ((wrap64 (x6_3 * a0_0)) + x7_4)) + 1)) < (x3_4.length : Int) then (spec_piGroups.j4 k4 x3_4 x5_4 x6_3 x7_4 (wrap64 ((wrap64 (x6_3 * a0_0)) + x7_4)) ((rd x3_4 (wrap64 ((wrap64 (x6_3 * a0_0)) + x7_4))) != (rd x3_4 (wrap64 ((wrap64 ((wrap64 (x6_3 * a0_0)) + x7_4)) + 1)))) a0_0 a0_1 l0_2 l0_3) else (none)) else (none)) else (none)) else (none)) else (spec_piGroups.j4 k4 x3_4 x5_4 x6_3 x7_4 (wrap64 ((wrap64 (x6_3 * a0_0)) + x7_4)) false a0_0 a0_1 l0_2 l0_3)) = some r := H
                 have A23 := Aside0.mk A230
                 clear A230
                 by_cases c24 : t166 = true
                 ·subst c24
                  have H1 : (if 0 ≤ (wrap64 ((wrap64 (x6_3 * a0_0)) + x7_4)) then (if (wrap64 ((wrap64 (x6_3 * a0_0)) + x7_4)) < (x3_4.length : Int) then (if 0 ≤ (wrap64 ((wrap64 ((wrap64 (x6_3 * a0_0)) + x7_4)) + 1)) then (if (wrap64 ((wrap64 ((wrap64 (x6_3 * a0_0)) + x7_4)) + 1)) < (x3_4.length : Int) then (spec_piGroups.j4 k4 x3_4 x5_4 x6_3 x7_4 (wrap64 ((wrap64 (x6_3 * a0_0)) + x7_4)) ((rd x3_4 (wrap64 ((wrap64 (x6_3 * a0_0)) + x7_4))) != (rd x3_4 (wrap64 ((wrap64 ((wrap64 (x6_3 * a0_0)) + x7_4)) + 1)))) a0_0 a0_1 l0_2 l0_3) else (none)) else (none)) else (none)) else (none)) = some r := by rw [if_pos rfl] at H; exact H
                  clear H
                  have H := H1
                  clear H1
                  obtain ⟨ji25, hji25⟩ : ∃ j_ : Int, (wrap64 ((wrap64 (x6_3 * a0_0)) + x7_4)) = j_ := ⟨_, rfl⟩
                  replace H : (if 0 ≤ (ji25) then (if (ji25) < (x3_4.length : Int) then (if 0 ≤ (wrap64 ((ji25) + 1)) then (if (wrap64 ((ji25) + 1)) < (x3_4.length : Int) then (spec_piGroups.j4 k4 x3_4 x5_4 x6_3 x7_4 ji25 ((rd x3_4 (ji25)) != (rd x3_4 (wrap64 ((ji25) + 1)))) a0_0 a0_1 l0_2 l0_3) else (none)) else (none)) else (none)) else (none)) = some r := by first | (rw [hji25] at H; exact H) | (simp only [hji25] at H ⊢; exact H)
                  (try rw [hji25] at A23)
                  have hji25w : (IntKind.i64.wrap ((wrap64 (x6_3 * a0_0)) + x7_4)) = ji25 := (i64_w _).trans hji25
                  by_cases c26 : 0 ≤ (ji25)
                  ·rw [if_pos c26] at H
                   have c26b0 : decide (0 ≤ (ji25)) = true := decide_eq_true c26
                   clear c26
                   by_cases c27 : (ji25) < (x3_4.length : Int)
                   ·rw [if_pos c27] at H
                    have c27b0 : decide ((ji25) < (x3_4.length : Int)) = true := decide_eq_true c27
                    (try simp only [hl3_1] at c27b0); (try simp only [hl3_2] at c27b0); (try simp only [hl3_3] at c27b0); (try simp only [hl3_4] at c27b0)
                    clear c27
                    obtain ⟨ji28, hji28⟩ : ∃ j_ : Int, (wrap64 ((ji25) + 1)) = j_ := ⟨_, rfl⟩
                    replace H : (if 0 ≤ (ji28) then (if (ji28) < (x3_4.length : Int) then (spec_piGroups.j4 k4 x3_4 x5_4 x6_3 x7_4 ji25 ((rd x3_4 (ji25)) != (rd x3_4 (ji28))) a0_0 a0_1 l0_2 l0_3) else (none)) else (none)) = some r := by first | (rw [hji28] at H; exact H) | (simp only [hji28] at H ⊢; exact H)
                    (try rw [hji28] at A23)
                    have hji28w : (IntKind.i64.wrap ((ji25) + 1)) = ji28 := (i64_w _).trans hji28
                    by_cases c29 : 0 ≤ (ji28)
                    ·rw [if_pos c29] at H
                     have c29b0 : decide (0 ≤ (ji28)) = true := decide_eq_true c29
                     clear c29
                     by_cases c30 : (ji28) < (x3_4.length : Int)
                     ·rw [if_pos c30] at H
                      have c30b0 : decide ((ji28) < (x3_4.length : Int)) = true := decide_eq_true c30
                      (try simp only [hl3_1] at c30b0); (try simp only [hl3_2] at c30b0); (try simp only [hl3_3] at c30b0); (try simp only [hl3_4] at c30b0)
                      clear c30
                      have H' := Aside0.mk H
                      clear H
                      try go_wp2
                      replace HO_3 := Aside0.mk (Kd.R_drew HO_3.out)
                      replace BK161 := Aside0.mk (blk_drew BK161.out)
                      replace HB := Aside0.mk (below_drew1 HB.out)
                      have p167 : 0 ≤ ((ji25) : Int) := of_decide_eq_true (by assumption)
                      have q167 : (ji25) < (x3_4.length : Int) := of_decide_eq_true (by assumption)
                      obtain ⟨ad167, e167, hx167_0⟩ := Kd.at_int (Kd.R_reads' HO_3.out).2.2 (ji25) p167 q167
                      cases e167
                      replace p167 := eq_true p167
                      replace q167 := eq_true q167
                      have p168 : 0 ≤ ((ji28) : Int) := of_decide_eq_true (by assumption)
                      have q168 : (ji28) < (x3_4.length : Int) := of_decide_eq_true (by assumption)
                      obtain ⟨ad168, e168, hx168_0⟩ := Kd.at_int (Kd.R_reads' HO_3.out).2.2 (ji28) p168 q168
                      obtain rfl : ad167 = ad168 := (by injection e168)
                      replace p168 := eq_true p168
                      replace q168 := eq_true q168
                      refine start_ (n := 23) (S := fun w' => w'.cell? ⟨gb161, 0, none⟩ = some (.int .i64 a0_0) ∧ w'.cell? ⟨gb161, 1, none⟩ = some (.int .i64 a0_1) ∧ w'.cell? ⟨gb161, 2, none⟩ = some (.slice A0_2 l0_2.length c0_2) ∧ w'.cell? ⟨gb161, 3, none⟩ = some (.slice A0_3 l0_3.length c0_3) ∧ w'.cell? (ad167.add ((ji25)).toNat) = some (.int .i64 (rd x3_4 (ji25))) ∧ w'.cell? (ad167.add ((ji28)).toNat) = some (.int .i64 (rd x3_4 (ji28)))) (ds := []) (fl 23 0) (by kernel_rfl) rfl rfl zQ (fun hHeld => ?_); refine with_tabW spec_piGroups.tab17 spec_piGroups.bits17 (fun HT_ HW_ => ?_)
                      generalize wr.drew = w31 at HO_3 BK161 HB hx167_0 hx168_0 hHeld ⊢
                      refine zpu 0 (some 46) (fl 23 1) ?_
                      refine zpu 1 (some 47) (fl 23 3) ?_
                      refine zpu 2 (some 48) (fl 23 7) ?_
                      refine ztk 3 (some 49) (fl 23 15) hHeld ?_
                      refine zpu 4 (some 50) (fl 23 31) ?_
                      refine zpu 5 (some 51) (fl 23 63) ?_
                      refine zpu 7 (some 53) (fl 23 191) ?_
                      refine zpu 8 (some 54) (fl 23 447) ?_
                      refine ztk 6 (some 52) (fl 23 511) hHeld ?_
                      refine zone 9 (some 55) (fl 23 1023) (fun K hK => ?_)
                      refine zgo Tryd.func97 #[.agg #[.int .i64 a0_0, .int .i64 a0_1, .slice A0_2 l0_2.length c0_2, .slice A0_3 l0_3.length c0_3], .int .i64 x7_4, .int .i64 x6_3, .bool false] ?_
                      with_reducible refine (spec_piSame.calls k4 a0_0 a0_1 _ _ l0_2 _ _ l0_3 x7_4 x6_3 false true _ ?side1 ?side2 ?side3 ?side4 A23.out).mono ?_
                      (case side1 => exact zC HR0_2)
                      (case side2 => exact HC0_2.out)
                      (case side3 => exact zC HR0_3)
                      (case side4 => exact HC0_3.out)
                      rintro e w32 ⟨rfl, hb⟩
                      have HS4_ := (hb.cell (World.block_lt_of_cell? _ _ (hHeld.2.2.2.2.1))).trans (hHeld.2.2.2.2.1)
                      have HS5_ := (hb.cell (World.block_lt_of_cell? _ _ (hHeld.2.2.2.2.2))).trans (hHeld.2.2.2.2.2)
                      refine ⟨_, rfl, ?_⟩
                      replace HO_3 := Aside0.mk (Kd.R_below (zR HO_3) hb)
                      replace BK161 := zKb BK161 hb
                      replace HB := zBb hb
                      (try clear hb)
                      (try clear hb2)
                      (try clear hk)
                      (try clear hi)
                      refine hK.out _ _ zQ (fun hHeld => ?_)
                      clear hK K
                      refine znm ?_
                      refine zpu 10 (some 56) (fl 23 2047) ?_
                      refine zpu 11 (some 57) (fl 23 4095) ?_
                      refine zpu 12 (some 58) (fl 23 8191) ?_
                      refine zpu 13 (some 59) (fl 23 16383) ?_
                      refine zpu 14 (some 60) (fl 23 32767) ?_
                      refine zpu 16 (some 62) (fl 23 98303) ?_
                      refine zpu 17 (some 63) (fl 23 229375) ?_
                      refine zpu 18 (some 64) (fl 23 491519) ?_
                      refine zpu 19 (some 65) (fl 23 1015807) ?_
                      refine ztk 15 (some 61) (fl 23 1048575) hHeld ?_
                      refine ztk 20 (some 66) (fl 23 2097151) hHeld ?_
                      refine zpu 21 (some 67) (fl 23 4194303) ?_
                      refine zpu 22 (some 68) (fl 23 8388607) ?_
                      refine done_ (done_of HT_.out (by kernel_rfl)) ?_
                      try go_wp2
                      first | go_meet | (refine Met.intro ?_; go_step; (repeat apply Exists.intro); (try simp only [hji2]); (try simp only [hji25]); (try simp only [hji28]); refine ⟨?rel, rfl⟩)
                      case rel => exact ⟨_, (((rd x3_4 (ji25)) != (rd x3_4 (ji28)))), (by first | rfl | (simp; done) | (simp only [← hji25, ← hji28] <;> (first | rfl | simp)) | (simp [*]; done)), H', ⟨by have := HK1.out; have := HK2.out; have := HK3.out; have := HK4.out; first | omega | exact Nat.le_refl _⟩, ⟨by (try simp only [hl3_1]); (try simp only [hl3_2]); (try simp only [hl3_3]); (try simp only [hl3_4]); (with_reducible repeat (first | apply Kd.R_alloc | apply Kd.R_drewN | apply Kd.R_drew)); exact HO_3.out⟩, ⟨by (try simp only [hl3_1]); (try simp only [hl3_2]); (try simp only [hl3_3]); (try simp only [hl3_4]); (with_reducible repeat (first | refine blk_drewN ?_ _ | refine blk_drew ?_ | refine blk_alloc ?_ _)); exact BK161.out⟩, ⟨zB⟩⟩
                     ·rw [if_neg c30] at H
                      exact absurd H (by simp)
                    ·rw [if_neg c29] at H
                     exact absurd H (by simp)
                   ·rw [if_neg c27] at H
                    exact absurd H (by simp)
                  ·rw [if_neg c26] at H
                   exact absurd H (by simp)
                 ·replace c24 := Bool.eq_false_iff.mpr c24
                  subst c24
                  have H1 : (spec_piGroups.j4 k4 x3_4 x5_4 x6_3 x7_4 (wrap64 ((wrap64 (x6_3 * a0_0)) + x7_4)) false a0_0 a0_1 l0_2 l0_3) = some r := by rw [if_neg (show ¬ (false = true) by decide)] at H; exact H
                  clear H
                  have H := H1
                  clear H1
                  have H' := Aside0.mk H
                  clear H
                  try go_wp2
                  replace HO_3 := Aside0.mk (Kd.R_drew HO_3.out)
                  replace BK161 := Aside0.mk (blk_drew BK161.out)
                  replace HB := Aside0.mk (below_drew1 HB.out)
                  refine start_ (n := 23) (S := fun w' => w'.cell? ⟨gb161, 0, none⟩ = some (.int .i64 a0_0) ∧ w'.cell? ⟨gb161, 1, none⟩ = some (.int .i64 a0_1) ∧ w'.cell? ⟨gb161, 2, none⟩ = some (.slice A0_2 l0_2.length c0_2) ∧ w'.cell? ⟨gb161, 3, none⟩ = some (.slice A0_3 l0_3.length c0_3)) (ds := []) (fl 23 0) (by kernel_rfl) rfl rfl zQ (fun hHeld => ?_); refine with_tabW spec_piGroups.tab17 spec_piGroups.bits17 (fun HT_ HW_ => ?_)
                  generalize wr.drew = w33 at HO_3 BK161 HB hHeld ⊢
                  refine zpu 0 (some 46) (fl 23 1) ?_
                  refine zpu 1 (some 47) (fl 23 3) ?_
                  refine zpu 2 (some 48) (fl 23 7) ?_
                  refine ztk 3 (some 49) (fl 23 15) hHeld ?_
                  refine zpu 4 (some 50) (fl 23 31) ?_
                  refine zpu 5 (some 51) (fl 23 63) ?_
                  refine zpu 7 (some 53) (fl 23 191) ?_
                  refine zpu 8 (some 54) (fl 23 447) ?_
                  refine ztk 6 (some 52) (fl 23 511) hHeld ?_
                  refine zone 9 (some 55) (fl 23 1023) (fun K hK => ?_)
                  refine zgo Tryd.func97 #[.agg #[.int .i64 a0_0, .int .i64 a0_1, .slice A0_2 l0_2.length c0_2, .slice A0_3 l0_3.length c0_3], .int .i64 x7_4, .int .i64 x6_3, .bool false] ?_
                  with_reducible refine (spec_piSame.calls k4 a0_0 a0_1 _ _ l0_2 _ _ l0_3 x7_4 x6_3 false false _ ?side1 ?side2 ?side3 ?side4 A23.out).mono ?_
                  (case side1 => exact zC HR0_2)
                  (case side2 => exact HC0_2.out)
                  (case side3 => exact zC HR0_3)
                  (case side4 => exact HC0_3.out)
                  rintro e w34 ⟨rfl, hb⟩
                  refine ⟨_, rfl, ?_⟩
                  replace HO_3 := Aside0.mk (Kd.R_below (zR HO_3) hb)
                  replace BK161 := zKb BK161 hb
                  replace HB := zBb hb
                  (try clear hb)
                  (try clear hb2)
                  (try clear hk)
                  (try clear hi)
                  refine hK.out _ _ zQ (fun hHeld => ?_)
                  clear hK K
                  refine znm ?_
                  refine zpu 10 (some 56) (fl 23 2047) ?_
                  refine zpu 11 (some 57) (fl 23 4095) ?_
                  refine zpn 12 (some 58) (fl 23 8191) ?_
                  refine zpn 13 (some 59) (fl 23 16383) ?_
                  refine zpn 14 (some 60) (fl 23 32767) ?_
                  refine zpn 15 (some 61) (fl 23 65535) ?_
                  refine zpn 16 (some 62) (fl 23 131071) ?_
                  refine zpn 17 (some 63) (fl 23 262143) ?_
                  refine zpn 18 (some 64) (fl 23 524287) ?_
                  refine zpn 19 (some 65) (fl 23 1048575) ?_
                  refine zpn 20 (some 66) (fl 23 2097151) ?_
                  refine zpn 21 (some 67) (fl 23 4194303) ?_
                  refine zpu 22 (some 68) (fl 23 8388607) ?_
                  refine done_ (done_of HT_.out (by kernel_rfl)) ?_
                  try go_wp2
                  first | go_meet | (refine Met.intro ?_; go_step; (repeat apply Exists.intro); (try simp only [hji2]); (try simp only [hji25]); (try simp only [hji28]); refine ⟨?rel, rfl⟩)
                  case rel => exact ⟨_, (false), zA, H', ⟨by have := HK1.out; have := HK2.out; have := HK3.out; have := HK4.out; first | omega | exact Nat.le_refl _⟩, ⟨by (try simp only [hl3_1]); (try simp only [hl3_2]); (try simp only [hl3_3]); (try simp only [hl3_4]); (with_reducible repeat (first | apply Kd.R_alloc | apply Kd.R_drewN | apply Kd.R_drew)); exact HO_3.out⟩, ⟨by (try simp only [hl3_1]); (try simp only [hl3_2]); (try simp only [hl3_3]); (try simp only [hl3_4]); (with_reducible repeat (first | refine blk_drewN ?_ _ | refine blk_drew ?_ | refine blk_alloc ?_ _)); exact BK161.out⟩, ⟨zB⟩⟩
                ·rw [if_neg c22] at H
                 have c22b0 : decide ((wrap64 (x7_4 + 1)) < a0_0) = false := decide_eq_false c22
                 clear c22
                 (first | rw [c22b0] | (simp only [i64_w, i32_w]; rw [c22b0]) | skip)
                 have H' := Aside0.mk H
                 clear H
                 try go_wp2
                 replace HO_3 := Aside0.mk (Kd.R_drew HO_3.out)
                 replace BK161 := Aside0.mk (blk_drew BK161.out)
                 replace HB := Aside0.mk (below_drew1 HB.out)
                 refine start_ (n := 23) (S := fun w' => w'.cell? ⟨gb161, 0, none⟩ = some (.int .i64 a0_0) ∧ w'.cell? ⟨gb161, 1, none⟩ = some (.int .i64 a0_1) ∧ w'.cell? ⟨gb161, 2, none⟩ = some (.slice A0_2 l0_2.length c0_2) ∧ w'.cell? ⟨gb161, 3, none⟩ = some (.slice A0_3 l0_3.length c0_3)) (ds := []) (fl 23 0) (by kernel_rfl) rfl rfl zQ (fun hHeld => ?_); refine with_tabW spec_piGroups.tab17 spec_piGroups.bits17 (fun HT_ HW_ => ?_)
                 generalize wr.drew = w35 at HO_3 BK161 HB hHeld ⊢
                 refine zpu 0 (some 46) (fl 23 1) ?_
                 refine zpu 1 (some 47) (fl 23 3) ?_
                 refine zpu 2 (some 48) (fl 23 7) ?_
                 refine ztk 3 (some 49) (fl 23 15) hHeld ?_
                 refine zpu 4 (some 50) (fl 23 31) ?_
                 refine zpu 5 (some 51) (fl 23 63) ?_
                 refine zpn 6 (some 52) (fl 23 127) ?_
                 refine zpn 7 (some 53) (fl 23 255) ?_
                 refine zpn 8 (some 54) (fl 23 511) ?_
                 refine zpn 9 (some 55) (fl 23 1023) ?_
                 refine zpu 10 (some 56) (fl 23 2047) ?_
                 refine zpu 11 (some 57) (fl 23 4095) ?_
                 refine zpn 12 (some 58) (fl 23 8191) ?_
                 refine zpn 13 (some 59) (fl 23 16383) ?_
                 refine zpn 14 (some 60) (fl 23 32767) ?_
                 refine zpn 15 (some 61) (fl 23 65535) ?_
                 refine zpn 16 (some 62) (fl 23 131071) ?_
                 refine zpn 17 (some 63) (fl 23 262143) ?_
                 refine zpn 18 (some 64) (fl 23 524287) ?_
                 refine zpn 19 (some 65) (fl 23 1048575) ?_
                 refine zpn 20 (some 66) (fl 23 2097151) ?_
                 refine zpn 21 (some 67) (fl 23 4194303) ?_
                 refine zpu 22 (some 68) (fl 23 8388607) ?_
                 refine done_ (done_of HT_.out (by kernel_rfl)) ?_
                 try go_wp2
                 first | go_meet | (refine Met.intro ?_; go_step; (repeat apply Exists.intro); (try simp only [hji2]); (try simp only [hji25]); (try simp only [hji28]); refine ⟨?rel, rfl⟩)
                 case rel => exact ⟨_, (false), zA, H', ⟨by have := HK1.out; have := HK2.out; have := HK3.out; have := HK4.out; first | omega | exact Nat.le_refl _⟩, ⟨by (try simp only [hl3_1]); (try simp only [hl3_2]); (try simp only [hl3_3]); (try simp only [hl3_4]); (with_reducible repeat (first | apply Kd.R_alloc | apply Kd.R_drewN | apply Kd.R_drew)); exact HO_3.out⟩, ⟨by (try simp only [hl3_1]); (try simp only [hl3_2]); (try simp only [hl3_3]); (try simp only [hl3_4]); (with_reducible repeat (first | refine blk_drewN ?_ _ | refine blk_drew ?_ | refine blk_alloc ?_ _)); exact BK161.out⟩, ⟨zB⟩⟩
               case rest =>
                clear HC20
                (try clear p1); (try clear q1); (try clear hx1); (try clear c2); (try clear p2); (try clear c3); (try clear p6); (try clear c9); (try clear p16); (try clear q16); (try clear hx16); (try clear c22); (try clear c22b0); (try clear c24); (try clear c26); (try clear c27); (try clear c29); (try clear c29b0); (try clear c30); (try clear c30b0); (try clear hx167_0); (try clear hx168_0); (try clear p167); (try clear p168); (try clear q167); (try clear q168)
                obtain ⟨kq, x68_19, rfl, HA, HJ19, HO_3, BK161, HB⟩ := hcut
                cases kq with
                | zero => exact absurd HA.out (by simp [spec_piGroups.j4])
                | succ kj19 =>
                 have H := HA.out
                 clear HA
                 simp only [spec_piGroups.j4] at H
                 have HC36 := Aside0.mk H
                 clear H
                 go_upto_if 68 with (fail)
                 go_cut [5] (fun v5 wc => ∃ (kq : Nat) (x3_35 : List Int) (x5_35 : Bool), v5 = .bool x5_35 ∧ Aside0 (spec_piGroups.j5 kq x3_35 x5_35 x6_3 x7_4 (wrap64 ((wrap64 (x6_3 * a0_0)) + x7_4)) a0_0 a0_1 l0_2 l0_3 = some r) ∧ Aside0 (kq ≤ kj19) ∧ Aside0 (Kd.R (Kd.int .i64) 3 wc w.heap.size (fun _ => True) (.slice Ao9 x3_4.length co9) x3_35) ∧ Aside0 (wc.heap[gb161]? = some (.cells #[.int .i64 a0_0, .int .i64 a0_1, (.slice A0_2 l0_2.length c0_2), (.slice A0_3 l0_3.length c0_3)] 30 (0, 0))) ∧ Aside0 (Below w.heap.size w wc))
                 case first =>
                  have H := HC36.out
                  clear HC36
                  by_cases c37 : x68_19 = true
                  ·subst c37
                   have H1 : (if 0 ≤ (wrap64 ((wrap64 (x6_3 * a0_0)) + x7_4)) then (if (wrap64 ((wrap64 (x6_3 * a0_0)) + x7_4)) < (x3_4.length : Int) then (if 0 ≤ (wrap64 ((wrap64 ((wrap64 (x6_3 * a0_0)) + x7_4)) + 1)) then (if (wrap64 ((wrap64 ((wrap64 (x6_3 * a0_0)) + x7_4)) + 1)) < (x3_4.length : Int) then ((spec_l1Least.f (rd x3_4 (wrap64 ((wrap64 (x6_3 * a0_0)) + x7_4))) (rd x3_4 (wrap64 ((wrap64 ((wrap64 (x6_3 * a0_0)) + x7_4)) + 1)))).bind fun t171 => (spec_piGroups.j5 kj19 ((x3_4.set ((wrap64 ((wrap64 (x6_3 * a0_0)) + x7_4)) : Int).toNat t171).set ((wrap64 ((wrap64 ((wrap64 (x6_3 * a0_0)) + x7_4)) + 1)) : Int).toNat t171) true x6_3 x7_4 (wrap64 ((wrap64 (x6_3 * a0_0)) + x7_4)) a0_0 a0_1 l0_2 l0_3)) else (none)) else (none)) else (none)) else (none)) = some r := by rw [if_pos rfl] at H; exact H
                   clear H
                   have H := H1
                   clear H1
                   obtain ⟨ji38, hji38⟩ : ∃ j_ : Int, (wrap64 ((wrap64 (x6_3 * a0_0)) + x7_4)) = j_ := ⟨_, rfl⟩
                   replace H : (if 0 ≤ (ji38) then (if (ji38) < (x3_4.length : Int) then (if 0 ≤ (wrap64 ((ji38) + 1)) then (if (wrap64 ((ji38) + 1)) < (x3_4.length : Int) then ((spec_l1Least.f (rd x3_4 (ji38)) (rd x3_4 (wrap64 ((ji38) + 1)))).bind fun t171 => (spec_piGroups.j5 kj19 ((x3_4.set ((ji38) : Int).toNat t171).set ((wrap64 ((ji38) + 1)) : Int).toNat t171) true x6_3 x7_4 (ji38) a0_0 a0_1 l0_2 l0_3)) else (none)) else (none)) else (none)) else (none)) = some r := by first | (rw [hji38] at H; exact H) | (simp only [hji38] at H ⊢; exact H)
                   have hji38w : (IntKind.i64.wrap ((wrap64 (x6_3 * a0_0)) + x7_4)) = ji38 := (i64_w _).trans hji38
                   by_cases c39 : 0 ≤ (ji38)
                   ·rw [if_pos c39] at H
                    have c39b0 : decide (0 ≤ (ji38)) = true := decide_eq_true c39
                    clear c39
                    (first | rw [c39b0] | (simp only [i64_w, i32_w]; rw [c39b0]) | skip)
                    by_cases c40 : (ji38) < (x3_4.length : Int)
                    ·rw [if_pos c40] at H
                     have c40b0 : decide ((ji38) < (x3_4.length : Int)) = true := decide_eq_true c40
                     (try simp only [hl3_1] at c40b0); (try simp only [hl3_2] at c40b0); (try simp only [hl3_3] at c40b0); (try simp only [hl3_4] at c40b0)
                     clear c40
                     obtain ⟨ji41, hji41⟩ : ∃ j_ : Int, (wrap64 ((ji38) + 1)) = j_ := ⟨_, rfl⟩
                     replace H : (if 0 ≤ (ji41) then (if (ji41) < (x3_4.length : Int) then ((spec_l1Least.f (rd x3_4 (ji38)) (rd x3_4 (ji41))).bind fun t171 => (spec_piGroups.j5 kj19 ((x3_4.set ((ji38) : Int).toNat t171).set ((ji41) : Int).toNat t171) true x6_3 x7_4 (ji38) a0_0 a0_1 l0_2 l0_3)) else (none)) else (none)) = some r := by first | (rw [hji41] at H; exact H) | (simp only [hji41] at H ⊢; exact H)
                     have hji41w : (IntKind.i64.wrap ((ji38) + 1)) = ji41 := (i64_w _).trans hji41
                     by_cases c42 : 0 ≤ (ji41)
                     ·rw [if_pos c42] at H
                      have c42b0 : decide (0 ≤ (ji41)) = true := decide_eq_true c42
                      clear c42
                      by_cases c43 : (ji41) < (x3_4.length : Int)
                      ·rw [if_pos c43] at H
                       have c43b0 : decide ((ji41) < (x3_4.length : Int)) = true := decide_eq_true c43
                       (try simp only [hl3_1] at c43b0); (try simp only [hl3_2] at c43b0); (try simp only [hl3_3] at c43b0); (try simp only [hl3_4] at c43b0)
                       clear c43
                       replace H := Option.bind_eq_some_iff.mp H
                       obtain ⟨t171, A440, H⟩ := H
                       replace H : (spec_piGroups.j5 kj19 ((x3_4.set ((ji38) : Int).toNat t171).set ((ji41) : Int).toNat t171) true x6_3 x7_4 (ji38) a0_0 a0_1 l0_2 l0_3) = some r := H
                       have A44 := Aside0.mk A440
                       clear A440
                       obtain ⟨y172, hy172⟩ : ∃ y_ : List Int, y_ = (x3_4.set ((ji38) : Int).toNat t171) := ⟨_, rfl⟩
                       replace H : (spec_piGroups.j5 kj19 (y172.set ((ji41) : Int).toNat t171) true x6_3 x7_4 (ji38) a0_0 a0_1 l0_2 l0_3) = some r := by first | (rw [hy172]; with_reducible exact H) | (have H2_ := (Option.bind_some _ _).symm.trans H; rw [hy172]; with_reducible exact H2_) | (have H2_ := (Option.bind_some _ _).symm.trans H; with_reducible exact H2_) | with_reducible exact H | (rw [hy172]; exact H) | exact H
                       have Ny172 := Aside0.mk hy172
                       clear hy172
                       obtain ⟨y173, hy173⟩ : ∃ y_ : List Int, y_ = (y172.set ((ji41) : Int).toNat t171) := ⟨_, rfl⟩
                       replace H : (spec_piGroups.j5 kj19 y173 true x6_3 x7_4 (ji38) a0_0 a0_1 l0_2 l0_3) = some r := by first | (rw [hy173]; with_reducible exact H) | (have H2_ := (Option.bind_some _ _).symm.trans H; rw [hy173]; with_reducible exact H2_) | (have H2_ := (Option.bind_some _ _).symm.trans H; with_reducible exact H2_) | with_reducible exact H | (rw [hy173]; exact H) | exact H
                       have Ny173 := Aside0.mk hy173
                       clear hy173
                       have H' := Aside0.mk H
                       clear H
                       try go_wp2
                       replace HO_3 := Aside0.mk (Kd.R_drew HO_3.out)
                       replace BK161 := Aside0.mk (blk_drew BK161.out)
                       replace HB := Aside0.mk (below_drew1 HB.out)
                       have p169 : 0 ≤ ((ji38) : Int) := of_decide_eq_true (by assumption)
                       have q169 : (ji38) < (x3_4.length : Int) := of_decide_eq_true (by assumption)
                       obtain ⟨ad169, e169, hx169_0⟩ := Kd.at_int (Kd.R_reads' HO_3.out).2.2 (ji38) p169 q169
                       cases e169
                       replace p169 := eq_true p169
                       replace q169 := eq_true q169
                       have p170 : 0 ≤ ((ji41) : Int) := of_decide_eq_true (by assumption)
                       have q170 : (ji41) < (x3_4.length : Int) := of_decide_eq_true (by assumption)
                       obtain ⟨ad170, e170, hx170_0⟩ := Kd.at_int (Kd.R_reads' HO_3.out).2.2 (ji41) p170 q170
                       obtain rfl : ad169 = ad170 := (by injection e170)
                       replace p170 := eq_true p170
                       replace q170 := eq_true q170
                       refine start_ (n := 11) (S := fun w' => w'.cell? (ad169.add ((ji38)).toNat) = some (.int .i64 (rd x3_4 (ji38))) ∧ w'.cell? (ad169.add ((ji41)).toNat) = some (.int .i64 (rd x3_4 (ji41)))) (ds := []) (fl 11 0) (by kernel_rfl) rfl rfl ⟨hx169_0, hx170_0⟩ (fun hHeld => ?_); refine with_tabW spec_piGroups.tab18 spec_piGroups.bits18 (fun HT_ HW_ => ?_)
                       generalize wc.drew = w47 at HO_3 BK161 HB hx169_0 hx170_0 hHeld ⊢
                       refine zpu 0 (some 69) (fl 11 1) ?_
                       refine zpu 1 (some 70) (fl 11 3) ?_
                       refine zpu 2 (some 71) (fl 11 7) ?_
                       refine zpu 4 (some 73) (fl 11 23) ?_
                       refine zpu 5 (some 74) (fl 11 55) ?_
                       refine zpu 6 (some 75) (fl 11 119) ?_
                       refine zpu 7 (some 76) (fl 11 247) ?_
                       refine ztk 3 (some 72) (fl 11 255) hHeld ?_
                       refine ztk 8 (some 77) (fl 11 511) hHeld ?_
                       refine zone 9 (some 78) (fl 11 1023) (fun K hK => ?_)
                       refine goes_ Tryd.func72 (by kernel_rfl) rfl #[.int .i64 (rd x3_4 (ji38)), .int .i64 (rd x3_4 (ji41))] (by rfl) rfl rfl (by (try simp only [List.map_toArray, List.map_cons, List.map_nil]); first | done | (simp only [hji38, hji41]; rfl) | rfl | (simp only [List.length_drop, List.length_take]; rfl)) ?_
                       with_reducible refine (spec_l1Least.calls (rd x3_4 (ji38)) (rd x3_4 (ji41)) t171 _ A44.out).mono ?_
                       rintro e w' ⟨rfl, ⟨nd, rfl⟩⟩
                       refine ⟨_, rfl, ?_⟩
                       refine hK.out _ _ ⟨hHeld.1, hHeld.2⟩ (fun hHeld => ?_)
                       clear hK K
                       refine znm ?_
                       refine zpu 10 (some 9) (fl 11 2047) ?_
                       refine done_ (done_of HT_.out (by kernel_rfl)) ?_
                       have HO_3n_ := Aside0.mk (Kd.R_drewN HO_3.out nd); have BK161n_ := Aside0.mk (blk_drewN BK161.out nd); have HBn_ := Aside0.mk (pw_below_drewN HB.out nd)
                       clear HO_3 BK161 HB
                       have HO_3 := HO_3n_; have BK161 := BK161n_; have HB := HBn_
                       clear HO_3n_ BK161n_ HBn_
                       generalize (w47.drewN nd) = w47q at *
                       have p45 : 0 ≤ ((ji38) : Int) := of_decide_eq_true (by assumption)
                       have q45 : ((ji38) : Int) < ((x3_4.length : Int) : Int) := of_decide_eq_true (by assumption)
                       obtain ⟨go45, co45, eo45, gb45, gl45, cl45, HG45⟩ := Kd.R_form HO_3.out (by omega)
                       (first | cases eo45 | (injection eo45 with ea_ en_ ec_; (first | subst ea_ | (injection ea_ with ea_; subst ea_)); subst ec_; clear en_))
                       have GB45 := Aside0.mk gb45
                       have GG45 := Aside0.mk HG45
                       clear gb45 gl45 HG45
                       (first | simp only [add_plain] at hx169_0 | skip)
                       (first | simp only [add_plain] at hx170_0 | skip)
                       obtain ⟨hx45_0, hf45_0⟩ := Kd.R_celln 0 HO_3.out ((ji38) : Int) p45 (by have hl_ := (Kd.R_reads' HO_3.out).1; first | exact q45 | omega)
                       replace p45 := eq_true p45
                       replace q45 := eq_true q45
                       obtain ⟨hy48_, hz48_⟩ := Kd.R_celln 0 HO_3.out ((ji38) : Int) (of_decide_eq_true (by assumption)) (of_decide_eq_true (by assumption))
                       have HP48 := Kd.R_putg HO_3.out ((ji38) : Int) t171
                       try go_wp2_with (first | ((with_reducible refine gate_store (t := 3) (p := 82) rfl ?_); refine store_event (t := 3) (p := 82) (v := ?vo_w49) (w1 := (w47q.setCell ⟨go45, ((ji38) : Int).toNat, none⟩ (.int .i64 t171))) ?hg ?ho ?hn ?hr ?_; (case ho => rfl); (case hg => rfl); (case hn => rfl); (case hr => first | (go_simp; done) | (go_simp; rfl)); intro w49 hw; have hg : w47q.grownBy w49 (some go45) := (by rw [hw]; exact HP48.2); have hp_ : Kd.R (Kd.int .i64) 3 w49 w.heap.size (fun _ => True) (.slice (some ⟨go45, 0, none⟩) x3_4.length co9) y172 := (by rw [hw, Ny172.out]; exact HP48.1); clear HP48; replace BK161 := Aside0.mk (blk_grown (g := gb161) (o := .cells #[.int .i64 a0_0, .int .i64 a0_1, .slice A0_2 l0_2.length c0_2, .slice A0_3 l0_3.length c0_3] 30 (0, 0)) (zK BK161) hg (Kd.R_ne HO_3.out BK161.out (by decide))); replace HO_3 := Aside0.mk (hp_); replace HB := Aside0.mk ((by rw [hw]; exact below_set (HB.out) GB45.out : Below w.heap.size w w49)); clear hg hw hp_; have p46 : 0 ≤ ((ji41) : Int) := of_decide_eq_true (by assumption); have q46 : ((ji41) : Int) < ((x3_4.length : Int) : Int) := of_decide_eq_true (by assumption); obtain ⟨hx46_0, hf46_0⟩ := Kd.R_celln 0 HO_3.out ((ji41) : Int) p46 (by have hl_ := (Kd.R_reads' HO_3.out).1; first | exact q46 | omega); replace p46 := eq_true p46; replace q46 := eq_true q46; obtain ⟨hy50_, hz50_⟩ := Kd.R_celln 0 HO_3.out ((ji41) : Int) (of_decide_eq_true (by assumption)) (by have hl_ := (Kd.R_reads' HO_3.out).1; have hq_ := of_eq_true q46; omega); have HP50 := Kd.R_putg HO_3.out ((ji41) : Int) t171) | ((with_reducible refine gate_store (t := 3) (p := 87) rfl ?_); refine store_event (t := 3) (p := 87) (v := ?vo_w51) (w1 := (w49.setCell ⟨go45, ((ji41) : Int).toNat, none⟩ (.int .i64 t171))) ?hg ?ho ?hn ?hr ?_; (case ho => rfl); (case hg => rfl); (case hn => rfl); (case hr => first | (go_simp; done) | (go_simp; rfl)); intro w51 hw; have hg : w49.grownBy w51 (some go45) := (by rw [hw]; exact HP50.2); have hp_ : Kd.R (Kd.int .i64) 3 w51 w.heap.size (fun _ => True) (.slice (some ⟨go45, 0, none⟩) x3_4.length co9) y173 := (by rw [hw, Ny173.out]; exact HP50.1); clear HP50; replace BK161 := Aside0.mk (blk_grown (g := gb161) (o := .cells #[.int .i64 a0_0, .int .i64 a0_1, .slice A0_2 l0_2.length c0_2, .slice A0_3 l0_3.length c0_3] 30 (0, 0)) (zK BK161) hg (Kd.R_ne HO_3.out BK161.out (by decide))); replace HO_3 := Aside0.mk (hp_); replace HB := Aside0.mk ((by rw [hw]; exact below_set (HB.out) GB45.out : Below w.heap.size w w51)); clear hg hw hp_))
                       first | go_meet | (refine Met.intro ?_; go_step; (repeat apply Exists.intro); (try simp only [hji2]); (try simp only [hji25]); (try simp only [hji28]); (try simp only [hji38]); (try simp only [hji41]); refine ⟨?rel, rfl⟩)
                       case rel => exact ⟨_, (y173), (true), zA, H', ⟨by have := HK1.out; have := HK2.out; have := HK3.out; have := HK4.out; have := HJ19.out; first | omega | exact Nat.le_refl _⟩, ⟨by (try simp only [hl3_1]); (try simp only [hl3_2]); (try simp only [hl3_3]); (try simp only [hl3_4]); (with_reducible repeat (first | apply Kd.R_alloc | apply Kd.R_drewN | apply Kd.R_drew)); exact HO_3.out⟩, ⟨by (try simp only [hl3_1]); (try simp only [hl3_2]); (try simp only [hl3_3]); (try simp only [hl3_4]); (with_reducible repeat (first | refine blk_drewN ?_ _ | refine blk_drew ?_ | refine blk_alloc ?_ _)); exact BK161.out⟩, ⟨zB⟩⟩
                      ·rw [if_neg c43] at H
                       exact absurd H (by simp)
                     ·rw [if_neg c42] at H
                      exact absurd H (by simp)
                    ·rw [if_neg c40] at H
                     exact absurd H (by simp)
                   ·rw [if_neg c39] at H
                    exact absurd H (by simp)
                  ·replace c37 := Bool.eq_false_iff.mpr c37
                   subst c37
                   have H1 : (spec_piGroups.j5 kj19 x3_4 x5_4 x6_3 x7_4 (wrap64 ((wrap64 (x6_3 * a0_0)) + x7_4)) a0_0 a0_1 l0_2 l0_3) = some r := by rw [if_neg (show ¬ (false = true) by decide)] at H; exact H
                   clear H
                   have H := H1
                   clear H1
                   have H' := Aside0.mk H
                   clear H
                   go_wp2
                   first | go_meet | (refine Met.intro ?_; go_step; (repeat apply Exists.intro); (try simp only [hji2]); (try simp only [hji25]); (try simp only [hji28]); (try simp only [hji38]); (try simp only [hji41]); refine ⟨?rel, rfl⟩)
                   case rel => exact ⟨_, (x3_4), (x5_4), zA, H', ⟨by have := HK1.out; have := HK2.out; have := HK3.out; have := HK4.out; have := HJ19.out; first | omega | exact Nat.le_refl _⟩, ⟨by (try simp only [hl3_1]); (try simp only [hl3_2]); (try simp only [hl3_3]); (try simp only [hl3_4]); (with_reducible repeat (first | apply Kd.R_alloc | apply Kd.R_drewN | apply Kd.R_drew)); exact HO_3.out⟩, ⟨by (try simp only [hl3_1]); (try simp only [hl3_2]); (try simp only [hl3_3]); (try simp only [hl3_4]); (with_reducible repeat (first | refine blk_drewN ?_ _ | refine blk_drew ?_ | refine blk_alloc ?_ _)); exact BK161.out⟩, ⟨zB⟩⟩
                 case rest =>
                  clear HC36
                  (try clear p1); (try clear q1); (try clear hx1); (try clear c2); (try clear p2); (try clear c3); (try clear c4); (try clear p4); (try clear q4); (try clear hx4); (try clear hf4); (try clear p6); (try clear c7); (try clear c9); (try clear p16); (try clear q16); (try clear hx16); (try clear p17); (try clear q17); (try clear hx17); (try clear c22); (try clear c22b0); (try clear c24); (try clear c26); (try clear c27); (try clear c29); (try clear c29b0); (try clear c30); (try clear c30b0); (try clear c37); (try clear c39); (try clear c39b0); (try clear c40); (try clear c40b0); (try clear c42); (try clear c42b0); (try clear c43); (try clear c43b0); (try clear p45); (try clear q45); (try clear hx45); (try clear hf45); (try clear p46); (try clear q46); (try clear hx46); (try clear hf46); (try clear hx167_0); (try clear hx168_0); (try clear hx169_0); (try clear hx170_0); (try clear hx45_0); (try clear hx46_0); (try clear p1); (try clear p16); (try clear p167); (try clear p168); (try clear p169); (try clear p170); (try clear p2); (try clear p45); (try clear p46); (try clear p6); (try clear q1); (try clear q16); (try clear q167); (try clear q168); (try clear q169); (try clear q170); (try clear q45); (try clear q46)
                  obtain ⟨kq, x3_35, x5_35, rfl, HA, HJ35, HO_3, BK161, HB⟩ := hcut
                  have hl3_35 := (Kd.R_reads' HO_3.out).1
                  rw [hl3_35] at HO_3
                  (try simp only [hl3_35])
                  (try simp only [hl3_35] at BK161)
                  cases kq with
                  | zero => exact absurd HA.out (by simp [spec_piGroups.j5])
                  | succ kj35 =>
                   have H := HA.out
                   clear HA
                   simp only [spec_piGroups.j5] at H
                   by_cases c52 : (wrap64 (x6_3 + 1)) < a0_1
                   ·rw [if_pos c52] at H
                    have c52b0 : decide ((wrap64 (x6_3 + 1)) < a0_1) = true := decide_eq_true c52
                    clear c52
                    replace H := Option.bind_eq_some_iff.mp H
                    obtain ⟨t174, A530, H⟩ := H
                    replace H : (if t174 = true then (if 0 ≤ (wrap64 ((wrap64 (x6_3 * a0_0)) + x7_4)) then (if (wrap64 ((wrap64 (x6_3 * a0_0)) + x7_4)) < (x3_35.length : Int) then (if 0 ≤ (wrap64 ((wrap64 ((wrap64 (x6_3 * a0_0)) + x7_4)) + a0_0)) then (if (wrap64 ((wrap64 ((wrap64 (x6_3 * a0_0)) + x7_4)) + a0_0)) < (x3_35.length : Int) then (if (rd x3_35 (wrap64 ((wrap64 (x6_3 * a0_0)) + x7_4))) = (rd x3_35 (wrap64 ((wrap64 ((wrap64 (x6_3 * a0_0)) + x7_4)) + a0_0))) then (spec_piGroups.l3 kj35 x3_35 x5_35 x6_3 (wrap64 (x7_4 + 1)) a0_0 a0_1 l0_2 l0_3) else ((spec_l1Least.f (rd x3_35 (wrap64 ((wrap64 (x6_3 * a0_0)) + x7_4))) (rd x3_35 (wrap64 ((wrap64 ((wrap64 (x6_3 * a0_0)) + x7_4)) + a0_0)))).bind fun t179 => (spec_piGroups.l3 kj35 ((x3_35.set ((wrap64 ((wrap64 (x6_3 * a0_0)) + x7_4)) : Int).toNat t179).set ((wrap64 ((wrap64 ((wrap64 (x6_3 * a0_0)) + x7_4)) + a0_0)) : Int).toNat t179) true x6_3 (wrap64 (x7_4 + 1)) a0_0 a0_1 l0_2 l0_3))) else (none)) else (none)) else (none)) else (none)) else (spec_piGroups.l3 kj35 x3_35 x5_35 x6_3 (wrap64 (x7_4 + 1)) a0_0 a0_1 l0_2 l0_3)) = some r := H
                    have A53 := Aside0.mk A530
                    clear A530
                    by_cases c54 : t174 = true
                    ·subst c54
                     have H1 : (if 0 ≤ (wrap64 ((wrap64 (x6_3 * a0_0)) + x7_4)) then (if (wrap64 ((wrap64 (x6_3 * a0_0)) + x7_4)) < (x3_35.length : Int) then (if 0 ≤ (wrap64 ((wrap64 ((wrap64 (x6_3 * a0_0)) + x7_4)) + a0_0)) then (if (wrap64 ((wrap64 ((wrap64 (x6_3 * a0_0)) + x7_4)) + a0_0)) < (x3_35.length : Int) then (if (rd x3_35 (wrap64 ((wrap64 (x6_3 * a0_0)) + x7_4))) = (rd x3_35 (wrap64 ((wrap64 ((wrap64 (x6_3 * a0_0)) + x7_4)) + a0_0))) then (spec_piGroups.l3 kj35 x3_35 x5_35 x6_3 (wrap64 (x7_4 + 1)) a0_0 a0_1 l0_2 l0_3) else ((spec_l1Least.f (rd x3_35 (wrap64 ((wrap64 (x6_3 * a0_0)) + x7_4))) (rd x3_35 (wrap64 ((wrap64 ((wrap64 (x6_3 * a0_0)) + x7_4)) + a0_0)))).bind fun t179 => (spec_piGroups.l3 kj35 ((x3_35.set ((wrap64 ((wrap64 (x6_3 * a0_0)) + x7_4)) : Int).toNat t179).set ((wrap64 ((wrap64 ((wrap64 (x6_3 * a0_0)) + x7_4)) + a0_0)) : Int).toNat t179) true x6_3 (wrap64 (x7_4 + 1)) a0_0 a0_1 l0_2 l0_3))) else (none)) else (none)) else (none)) else (none)) = some r := by rw [if_pos rfl] at H; exact H
                     clear H
                     have H := H1
                     clear H1
                     obtain ⟨ji55, hji55⟩ : ∃ j_ : Int, (wrap64 ((wrap64 (x6_3 * a0_0)) + x7_4)) = j_ := ⟨_, rfl⟩
                     replace H : (if 0 ≤ (ji55) then (if (ji55) < (x3_35.length : Int) then (if 0 ≤ (wrap64 ((ji55) + a0_0)) then (if (wrap64 ((ji55) + a0_0)) < (x3_35.length : Int) then (if (rd x3_35 (ji55)) = (rd x3_35 (wrap64 ((ji55) + a0_0))) then (spec_piGroups.l3 kj35 x3_35 x5_35 x6_3 (wrap64 (x7_4 + 1)) a0_0 a0_1 l0_2 l0_3) else ((spec_l1Least.f (rd x3_35 (ji55)) (rd x3_35 (wrap64 ((ji55) + a0_0)))).bind fun t179 => (spec_piGroups.l3 kj35 ((x3_35.set ((ji55) : Int).toNat t179).set ((wrap64 ((ji55) + a0_0)) : Int).toNat t179) true x6_3 (wrap64 (x7_4 + 1)) a0_0 a0_1 l0_2 l0_3))) else (none)) else (none)) else (none)) else (none)) = some r := by first | (rw [hji55] at H; exact H) | (simp only [hji55] at H ⊢; exact H)
                     (try rw [hji55] at A53)
                     have hji55w : (IntKind.i64.wrap ((wrap64 (x6_3 * a0_0)) + x7_4)) = ji55 := (i64_w _).trans hji55
                     by_cases c56 : 0 ≤ (ji55)
                     ·rw [if_pos c56] at H
                      have c56b0 : decide (0 ≤ (ji55)) = true := decide_eq_true c56
                      clear c56
                      by_cases c57 : (ji55) < (x3_35.length : Int)
                      ·rw [if_pos c57] at H
                       have c57b0 : decide ((ji55) < (x3_35.length : Int)) = true := decide_eq_true c57
                       (try simp only [hl3_1] at c57b0); (try simp only [hl3_2] at c57b0); (try simp only [hl3_3] at c57b0); (try simp only [hl3_4] at c57b0); (try simp only [hl3_35] at c57b0)
                       clear c57
                       obtain ⟨ji58, hji58⟩ : ∃ j_ : Int, (wrap64 ((ji55) + a0_0)) = j_ := ⟨_, rfl⟩
                       replace H : (if 0 ≤ (ji58) then (if (ji58) < (x3_35.length : Int) then (if (rd x3_35 (ji55)) = (rd x3_35 (ji58)) then (spec_piGroups.l3 kj35 x3_35 x5_35 x6_3 (wrap64 (x7_4 + 1)) a0_0 a0_1 l0_2 l0_3) else ((spec_l1Least.f (rd x3_35 (ji55)) (rd x3_35 (ji58))).bind fun t179 => (spec_piGroups.l3 kj35 ((x3_35.set ((ji55) : Int).toNat t179).set ((ji58) : Int).toNat t179) true x6_3 (wrap64 (x7_4 + 1)) a0_0 a0_1 l0_2 l0_3))) else (none)) else (none)) = some r := by first | (rw [hji58] at H; exact H) | (simp only [hji58] at H ⊢; exact H)
                       (try rw [hji58] at A53)
                       have hji58w : (IntKind.i64.wrap ((ji55) + a0_0)) = ji58 := (i64_w _).trans hji58
                       by_cases c59 : 0 ≤ (ji58)
                       ·rw [if_pos c59] at H
                        have c59b0 : decide (0 ≤ (ji58)) = true := decide_eq_true c59
                        clear c59
                        by_cases c60 : (ji58) < (x3_35.length : Int)
                        ·rw [if_pos c60] at H
                         have c60b0 : decide ((ji58) < (x3_35.length : Int)) = true := decide_eq_true c60
                         (try simp only [hl3_1] at c60b0); (try simp only [hl3_2] at c60b0); (try simp only [hl3_3] at c60b0); (try simp only [hl3_4] at c60b0); (try simp only [hl3_35] at c60b0)
                         clear c60
                         by_cases c61 : (rd x3_35 (ji55)) = (rd x3_35 (ji58))
                         ·rw [if_pos c61] at H
                          have c61b0 : ((rd x3_35 (ji55)) == (rd x3_35 (ji58))) = true := beq_iff_eq.mpr c61
                          have c61b1 : ((rd x3_35 (ji55)) != (rd x3_35 (ji58))) = false := bne_eq_false_iff_eq.mpr c61
                          clear c61
                          have H' := Aside0.mk H
                          clear H
                          try go_wp2
                          replace HO_3 := Aside0.mk (Kd.R_drew HO_3.out)
                          replace BK161 := Aside0.mk (blk_drew BK161.out)
                          replace HB := Aside0.mk (below_drew1 HB.out)
                          have p175 : 0 ≤ ((ji55) : Int) := of_decide_eq_true (by assumption)
                          have q175 : (ji55) < (x3_35.length : Int) := of_decide_eq_true (by assumption)
                          obtain ⟨ad175, e175, hx175_0⟩ := Kd.at_int (Kd.R_reads' HO_3.out).2.2 (ji55) p175 q175
                          cases e175
                          replace p175 := eq_true p175
                          replace q175 := eq_true q175
                          have p176 : 0 ≤ ((ji58) : Int) := of_decide_eq_true (by assumption)
                          have q176 : (ji58) < (x3_35.length : Int) := of_decide_eq_true (by assumption)
                          obtain ⟨ad176, e176, hx176_0⟩ := Kd.at_int (Kd.R_reads' HO_3.out).2.2 (ji58) p176 q176
                          obtain rfl : ad175 = ad176 := (by injection e176)
                          replace p176 := eq_true p176
                          replace q176 := eq_true q176
                          refine start_ (n := 25) (S := fun w' => w'.cell? ⟨gb161, 0, none⟩ = some (.int .i64 a0_0) ∧ w'.cell? ⟨gb161, 1, none⟩ = some (.int .i64 a0_1) ∧ w'.cell? ⟨gb161, 2, none⟩ = some (.slice A0_2 l0_2.length c0_2) ∧ w'.cell? ⟨gb161, 3, none⟩ = some (.slice A0_3 l0_3.length c0_3) ∧ w'.cell? (ad175.add ((ji55)).toNat) = some (.int .i64 (rd x3_35 (ji55))) ∧ w'.cell? (ad175.add ((ji58)).toNat) = some (.int .i64 (rd x3_35 (ji58)))) (ds := []) (fl 25 0) (by kernel_rfl) rfl rfl zQ (fun hHeld => ?_); refine with_tabW spec_piGroups.tab22 spec_piGroups.bits22 (fun HT_ HW_ => ?_)
                          generalize wc.drew = w62 at HO_3 BK161 HB hx175_0 hx176_0 hHeld ⊢
                          refine zpu 0 (some 88) (fl 25 1) ?_
                          refine zpu 1 (some 89) (fl 25 3) ?_
                          refine zpu 2 (some 90) (fl 25 7) ?_
                          refine ztk 3 (some 91) (fl 25 15) hHeld ?_
                          refine zpu 4 (some 92) (fl 25 31) ?_
                          refine zpu 5 (some 93) (fl 25 63) ?_
                          refine zpu 7 (some 95) (fl 25 191) ?_
                          refine zpu 8 (some 96) (fl 25 447) ?_
                          refine ztk 6 (some 94) (fl 25 511) hHeld ?_
                          refine zone 9 (some 97) (fl 25 1023) (fun K hK => ?_)
                          refine zgo Tryd.func97 #[.agg #[.int .i64 a0_0, .int .i64 a0_1, .slice A0_2 l0_2.length c0_2, .slice A0_3 l0_3.length c0_3], .int .i64 x7_4, .int .i64 x6_3, .bool true] ?_
                          with_reducible refine (spec_piSame.calls kj35 a0_0 a0_1 _ _ l0_2 _ _ l0_3 x7_4 x6_3 true true _ ?side1 ?side2 ?side3 ?side4 A53.out).mono ?_
                          (case side1 => exact zC HR0_2)
                          (case side2 => exact HC0_2.out)
                          (case side3 => exact zC HR0_3)
                          (case side4 => exact HC0_3.out)
                          rintro e w63 ⟨rfl, hb⟩
                          have HS4_ := (hb.cell (World.block_lt_of_cell? _ _ (hHeld.2.2.2.2.1))).trans (hHeld.2.2.2.2.1)
                          have HS5_ := (hb.cell (World.block_lt_of_cell? _ _ (hHeld.2.2.2.2.2))).trans (hHeld.2.2.2.2.2)
                          refine ⟨_, rfl, ?_⟩
                          replace HO_3 := Aside0.mk (Kd.R_below (zR HO_3) hb)
                          replace BK161 := zKb BK161 hb
                          replace HB := zBb hb
                          (try clear hb)
                          (try clear hb2)
                          (try clear hk)
                          (try clear hi)
                          refine hK.out _ _ zQ (fun hHeld => ?_)
                          clear hK K
                          refine znm ?_
                          refine zpu 10 (some 98) (fl 25 2047) ?_
                          refine zpu 11 (some 99) (fl 25 4095) ?_
                          refine zpu 12 (some 100) (fl 25 8191) ?_
                          refine zpu 13 (some 101) (fl 25 16383) ?_
                          refine zpu 14 (some 102) (fl 25 32767) ?_
                          refine zpu 16 (some 104) (fl 25 98303) ?_
                          refine zpu 17 (some 105) (fl 25 229375) ?_
                          refine zpu 18 (some 106) (fl 25 491519) ?_
                          refine ztk 15 (some 103) (fl 25 524287) hHeld ?_
                          refine ztk 19 (some 107) (fl 25 1048575) hHeld ?_
                          refine zpu 20 (some 108) (fl 25 2097151) ?_
                          refine zpu 21 (some 109) (fl 25 4194303) ?_
                          refine ztk 22 (some 110) (fl 25 8388607) hHeld ?_
                          refine zpu 23 (some 111) (fl 25 16777215) ?_
                          refine zpu 24 (some 112) (fl 25 33554431) ?_
                          refine done_ (done_of HT_.out (by kernel_rfl)) ?_
                          try go_wp2
                          (try simp only [← hl3_4, ← hl3_35])
                          first | go_roundg kj35 | ((try subst hji2); (try subst hji25); (try subst hji28); (try subst hji38); (try subst hji41); (try subst hji55); (try subst hji58); go_roundg kj35)
                          case measure => have := HK1.out; have := HK2.out; have := HK3.out; have := HK4.out; have := HJ19.out; have := HJ35.out; omega
                          case rel => exact ⟨(x3_35), (x5_35), (wrap64 (x7_4 + 1)), zA, zA, H', ⟨by have := HK1.out; have := HK2.out; have := HK3.out; have := HK4.out; have := HJ19.out; have := HJ35.out; omega⟩, ⟨by (try simp only [hl3_1]); (try simp only [hl3_2]); (try simp only [hl3_3]); (try simp only [hl3_4]); (try simp only [hl3_35]); (with_reducible repeat (first | apply Kd.R_alloc | apply Kd.R_drewN | apply Kd.R_drew)); exact HO_3.out⟩, ⟨by (try simp only [hl3_1]); (try simp only [hl3_2]); (try simp only [hl3_3]); (try simp only [hl3_4]); (try simp only [hl3_35]); (with_reducible repeat (first | refine blk_drewN ?_ _ | refine blk_drew ?_ | refine blk_alloc ?_ _)); exact BK161.out⟩, ⟨zB⟩⟩
                         ·rw [if_neg c61] at H
                          have c61b0 : ((rd x3_35 (ji55)) == (rd x3_35 (ji58))) = false := beq_eq_false_iff_ne.mpr c61
                          have c61b1 : ((rd x3_35 (ji55)) != (rd x3_35 (ji58))) = true := bne_iff_ne.mpr c61
                          replace H := Option.bind_eq_some_iff.mp H
                          obtain ⟨t179, A640, H⟩ := H
                          replace H : (spec_piGroups.l3 kj35 ((x3_35.set ((ji55) : Int).toNat t179).set ((ji58) : Int).toNat t179) true x6_3 (wrap64 (x7_4 + 1)) a0_0 a0_1 l0_2 l0_3) = some r := H
                          have A64 := Aside0.mk A640
                          clear A640
                          obtain ⟨y180, hy180⟩ : ∃ y_ : List Int, y_ = (x3_35.set ((ji55) : Int).toNat t179) := ⟨_, rfl⟩
                          replace H : (spec_piGroups.l3 kj35 (y180.set ((ji58) : Int).toNat t179) true x6_3 (wrap64 (x7_4 + 1)) a0_0 a0_1 l0_2 l0_3) = some r := by first | (rw [hy180]; with_reducible exact H) | (have H2_ := (Option.bind_some _ _).symm.trans H; rw [hy180]; with_reducible exact H2_) | (have H2_ := (Option.bind_some _ _).symm.trans H; with_reducible exact H2_) | with_reducible exact H | (rw [hy180]; exact H) | exact H
                          have Ny180 := Aside0.mk hy180
                          clear hy180
                          obtain ⟨y181, hy181⟩ : ∃ y_ : List Int, y_ = (y180.set ((ji58) : Int).toNat t179) := ⟨_, rfl⟩
                          replace H : (spec_piGroups.l3 kj35 y181 true x6_3 (wrap64 (x7_4 + 1)) a0_0 a0_1 l0_2 l0_3) = some r := by first | (rw [hy181]; with_reducible exact H) | (have H2_ := (Option.bind_some _ _).symm.trans H; rw [hy181]; with_reducible exact H2_) | (have H2_ := (Option.bind_some _ _).symm.trans H; with_reducible exact H2_) | with_reducible exact H | (rw [hy181]; exact H) | exact H
                          have Ny181 := Aside0.mk hy181
                          clear hy181
                          have H' := Aside0.mk H
                          clear H
                          try go_wp2
                          replace HO_3 := Aside0.mk (Kd.R_drew HO_3.out)
                          replace BK161 := Aside0.mk (blk_drew BK161.out)
                          replace HB := Aside0.mk (below_drew1 HB.out)
                          have p175 : 0 ≤ ((ji55) : Int) := of_decide_eq_true (by assumption)
                          have q175 : (ji55) < (x3_35.length : Int) := of_decide_eq_true (by assumption)
                          obtain ⟨ad175, e175, hx175_0⟩ := Kd.at_int (Kd.R_reads' HO_3.out).2.2 (ji55) p175 q175
                          cases e175
                          replace p175 := eq_true p175
                          replace q175 := eq_true q175
                          have p176 : 0 ≤ ((ji58) : Int) := of_decide_eq_true (by assumption)
                          have q176 : (ji58) < (x3_35.length : Int) := of_decide_eq_true (by assumption)
                          obtain ⟨ad176, e176, hx176_0⟩ := Kd.at_int (Kd.R_reads' HO_3.out).2.2 (ji58) p176 q176
                          obtain rfl : ad175 = ad176 := (by injection e176)
                          replace p176 := eq_true p176
                          replace q176 := eq_true q176
                          refine start_ (n := 25) (S := fun w' => w'.cell? ⟨gb161, 0, none⟩ = some (.int .i64 a0_0) ∧ w'.cell? ⟨gb161, 1, none⟩ = some (.int .i64 a0_1) ∧ w'.cell? ⟨gb161, 2, none⟩ = some (.slice A0_2 l0_2.length c0_2) ∧ w'.cell? ⟨gb161, 3, none⟩ = some (.slice A0_3 l0_3.length c0_3) ∧ w'.cell? (ad175.add ((ji55)).toNat) = some (.int .i64 (rd x3_35 (ji55))) ∧ w'.cell? (ad175.add ((ji58)).toNat) = some (.int .i64 (rd x3_35 (ji58)))) (ds := []) (fl 25 0) (by kernel_rfl) rfl rfl zQ (fun hHeld => ?_); refine with_tabW spec_piGroups.tab22 spec_piGroups.bits22 (fun HT_ HW_ => ?_)
                          generalize wc.drew = w67 at HO_3 BK161 HB hx175_0 hx176_0 hHeld ⊢
                          refine zpu 0 (some 88) (fl 25 1) ?_
                          refine zpu 1 (some 89) (fl 25 3) ?_
                          refine zpu 2 (some 90) (fl 25 7) ?_
                          refine ztk 3 (some 91) (fl 25 15) hHeld ?_
                          refine zpu 4 (some 92) (fl 25 31) ?_
                          refine zpu 5 (some 93) (fl 25 63) ?_
                          refine zpu 7 (some 95) (fl 25 191) ?_
                          refine zpu 8 (some 96) (fl 25 447) ?_
                          refine ztk 6 (some 94) (fl 25 511) hHeld ?_
                          refine zone 9 (some 97) (fl 25 1023) (fun K hK => ?_)
                          refine zgo Tryd.func97 #[.agg #[.int .i64 a0_0, .int .i64 a0_1, .slice A0_2 l0_2.length c0_2, .slice A0_3 l0_3.length c0_3], .int .i64 x7_4, .int .i64 x6_3, .bool true] ?_
                          with_reducible refine (spec_piSame.calls kj35 a0_0 a0_1 _ _ l0_2 _ _ l0_3 x7_4 x6_3 true true _ ?side1 ?side2 ?side3 ?side4 A53.out).mono ?_
                          (case side1 => exact zC HR0_2)
                          (case side2 => exact HC0_2.out)
                          (case side3 => exact zC HR0_3)
                          (case side4 => exact HC0_3.out)
                          rintro e w68 ⟨rfl, hb⟩
                          have HS4_ := (hb.cell (World.block_lt_of_cell? _ _ (hHeld.2.2.2.2.1))).trans (hHeld.2.2.2.2.1)
                          have HS5_ := (hb.cell (World.block_lt_of_cell? _ _ (hHeld.2.2.2.2.2))).trans (hHeld.2.2.2.2.2)
                          refine ⟨_, rfl, ?_⟩
                          replace HO_3 := Aside0.mk (Kd.R_below (zR HO_3) hb)
                          replace BK161 := zKb BK161 hb
                          replace HB := zBb hb
                          (try clear hb)
                          (try clear hb2)
                          (try clear hk)
                          (try clear hi)
                          refine hK.out _ _ zQ (fun hHeld => ?_)
                          clear hK K
                          refine znm ?_
                          refine zpu 10 (some 98) (fl 25 2047) ?_
                          refine zpu 11 (some 99) (fl 25 4095) ?_
                          refine zpu 12 (some 100) (fl 25 8191) ?_
                          refine zpu 13 (some 101) (fl 25 16383) ?_
                          refine zpu 14 (some 102) (fl 25 32767) ?_
                          refine zpu 16 (some 104) (fl 25 98303) ?_
                          refine zpu 17 (some 105) (fl 25 229375) ?_
                          refine zpu 18 (some 106) (fl 25 491519) ?_
                          refine ztk 15 (some 103) (fl 25 524287) hHeld ?_
                          refine ztk 19 (some 107) (fl 25 1048575) hHeld ?_
                          refine zpu 20 (some 108) (fl 25 2097151) ?_
                          refine zpu 21 (some 109) (fl 25 4194303) ?_
                          refine ztk 22 (some 110) (fl 25 8388607) hHeld ?_
                          refine zpu 23 (some 111) (fl 25 16777215) ?_
                          refine zpu 24 (some 112) (fl 25 33554431) ?_
                          refine done_ (done_of HT_.out (by kernel_rfl)) ?_
                          try go_wp2
                          replace HO_3 := Aside0.mk (Kd.R_drew HO_3.out)
                          replace BK161 := Aside0.mk (blk_drew BK161.out)
                          replace HB := Aside0.mk (below_drew1 HB.out)
                          have p177 : 0 ≤ ((ji55) : Int) := of_decide_eq_true (by assumption)
                          have q177 : (ji55) < (x3_35.length : Int) := of_decide_eq_true (by assumption)
                          obtain ⟨ad177, e177, hx177_0⟩ := Kd.at_int (Kd.R_reads' HO_3.out).2.2 (ji55) p177 q177
                          obtain rfl : ad175 = ad177 := (by injection e177)
                          replace p177 := eq_true p177
                          replace q177 := eq_true q177
                          have p178 : 0 ≤ ((ji58) : Int) := of_decide_eq_true (by assumption)
                          have q178 : (ji58) < (x3_35.length : Int) := of_decide_eq_true (by assumption)
                          obtain ⟨ad178, e178, hx178_0⟩ := Kd.at_int (Kd.R_reads' HO_3.out).2.2 (ji58) p178 q178
                          obtain rfl : ad175 = ad178 := (by injection e178)
                          replace p178 := eq_true p178
                          replace q178 := eq_true q178
                          refine start_ (n := 13) (S := fun w' => w'.cell? ⟨gb161, 0, none⟩ = some (.int .i64 a0_0) ∧ w'.cell? ⟨gb161, 1, none⟩ = some (.int .i64 a0_1) ∧ w'.cell? ⟨gb161, 2, none⟩ = some (.slice A0_2 l0_2.length c0_2) ∧ w'.cell? ⟨gb161, 3, none⟩ = some (.slice A0_3 l0_3.length c0_3) ∧ w'.cell? (ad175.add ((ji55)).toNat) = some (.int .i64 (rd x3_35 (ji55))) ∧ w'.cell? (ad175.add ((ji58)).toNat) = some (.int .i64 (rd x3_35 (ji58)))) (ds := []) (fl 13 0) (by kernel_rfl) rfl rfl zQ (fun hHeld => ?_); refine with_tabW spec_piGroups.tab23 spec_piGroups.bits23 (fun HT_ HW_ => ?_)
                          generalize w68.drew = w69 at HO_3 BK161 HB hx177_0 hx178_0 hHeld ⊢
                          refine zpu 0 (some 113) (fl 13 1) ?_
                          refine zpu 1 (some 114) (fl 13 3) ?_
                          refine zpu 2 (some 115) (fl 13 7) ?_
                          refine zpu 4 (some 117) (fl 13 23) ?_
                          refine zpu 5 (some 118) (fl 13 55) ?_
                          refine zpu 6 (some 119) (fl 13 119) ?_
                          refine ztk 3 (some 116) (fl 13 127) hHeld ?_
                          refine ztk 7 (some 120) (fl 13 255) hHeld ?_
                          refine zpu 8 (some 121) (fl 13 511) ?_
                          refine zpu 9 (some 122) (fl 13 1023) ?_
                          refine ztk 10 (some 123) (fl 13 2047) hHeld ?_
                          refine zone 11 (some 124) (fl 13 4095) (fun K hK => ?_)
                          refine goes_ Tryd.func72 (by kernel_rfl) rfl #[.int .i64 (rd x3_35 (ji55)), .int .i64 (rd x3_35 (ji58))] (by rfl) rfl rfl (by (try simp only [List.map_toArray, List.map_cons, List.map_nil]); first | done | (simp only [hji55, hji58]; rfl) | rfl | (simp only [List.length_drop, List.length_take]; rfl)) ?_
                          with_reducible refine (spec_l1Least.calls (rd x3_35 (ji55)) (rd x3_35 (ji58)) t179 _ A64.out).mono ?_
                          rintro e w' ⟨rfl, ⟨nd, rfl⟩⟩
                          refine ⟨_, rfl, ?_⟩
                          refine hK.out _ _ ⟨(blk_cell BK161.out 0).trans rfl, (blk_cell BK161.out 1).trans rfl, (blk_cell BK161.out 2).trans rfl, (blk_cell BK161.out 3).trans rfl, hHeld.2.2.2.2.1, hHeld.2.2.2.2.2⟩ (fun hHeld => ?_)
                          clear hK K
                          refine znm ?_
                          refine zpu 12 (some 10) (fl 13 8191) ?_
                          refine done_ (done_of HT_.out (by kernel_rfl)) ?_
                          have HO_3n_ := Aside0.mk (Kd.R_drewN HO_3.out nd); have BK161n_ := Aside0.mk (blk_drewN BK161.out nd); have HBn_ := Aside0.mk (pw_below_drewN HB.out nd)
                          clear HO_3 BK161 HB
                          have HO_3 := HO_3n_; have BK161 := BK161n_; have HB := HBn_
                          clear HO_3n_ BK161n_ HBn_
                          generalize (w69.drewN nd) = w69q at *
                          have p65 : 0 ≤ ((ji55) : Int) := of_decide_eq_true (by assumption)
                          have q65 : ((ji55) : Int) < ((x3_35.length : Int) : Int) := of_decide_eq_true (by assumption)
                          obtain ⟨go65, co65, eo65, gb65, gl65, cl65, HG65⟩ := Kd.R_form HO_3.out (by omega)
                          (first | cases eo65 | (injection eo65 with ea_ en_ ec_; (first | subst ea_ | (injection ea_ with ea_; subst ea_)); subst ec_; clear en_))
                          have GB65 := Aside0.mk gb65
                          have GG65 := Aside0.mk HG65
                          clear gb65 gl65 HG65
                          (first | simp only [add_plain] at hx175_0 | skip)
                          (first | simp only [add_plain] at hx176_0 | skip)
                          (first | simp only [add_plain] at hx177_0 | skip)
                          (first | simp only [add_plain] at hx178_0 | skip)
                          obtain ⟨hx65_0, hf65_0⟩ := Kd.R_celln 0 HO_3.out ((ji55) : Int) p65 (by have hl_ := (Kd.R_reads' HO_3.out).1; first | exact q65 | omega)
                          replace p65 := eq_true p65
                          replace q65 := eq_true q65
                          obtain ⟨hy70_, hz70_⟩ := Kd.R_celln 0 HO_3.out ((ji55) : Int) (of_decide_eq_true (by assumption)) (of_decide_eq_true (by assumption))
                          have HP70 := Kd.R_putg HO_3.out ((ji55) : Int) t179
                          try go_wp2_with (first | ((with_reducible refine gate_store (t := 3) (p := 128) rfl ?_); refine store_event (t := 3) (p := 128) (v := ?vo_w71) (w1 := (w69q.setCell ⟨go65, ((ji55) : Int).toNat, none⟩ (.int .i64 t179))) ?hg ?ho ?hn ?hr ?_; (case ho => rfl); (case hg => rfl); (case hn => rfl); (case hr => first | (go_simp; done) | (go_simp; rfl)); intro w71 hw; have hg : w69q.grownBy w71 (some go65) := (by rw [hw]; exact HP70.2); have hp_ : Kd.R (Kd.int .i64) 3 w71 w.heap.size (fun _ => True) (.slice (some ⟨go65, 0, none⟩) x3_35.length co9) y180 := (by rw [hw, Ny180.out]; exact HP70.1); clear HP70; replace BK161 := Aside0.mk (blk_grown (g := gb161) (o := .cells #[.int .i64 a0_0, .int .i64 a0_1, .slice A0_2 l0_2.length c0_2, .slice A0_3 l0_3.length c0_3] 30 (0, 0)) (zK BK161) hg (Kd.R_ne HO_3.out BK161.out (by decide))); replace HO_3 := Aside0.mk (hp_); replace HB := Aside0.mk ((by rw [hw]; exact below_set (HB.out) GB65.out : Below w.heap.size w w71)); clear hg hw hp_; obtain ⟨hcz72_0, hcz72_1, hcz72_2, hcz72_3, hfz72_0, hfz72_1, hfz72_2, hfz72_3⟩ := blk4 BK161; have p66 : 0 ≤ ((ji58) : Int) := of_decide_eq_true (by assumption); have q66 : ((ji58) : Int) < ((x3_35.length : Int) : Int) := of_decide_eq_true (by assumption); obtain ⟨hx66_0, hf66_0⟩ := Kd.R_celln 0 HO_3.out ((ji58) : Int) p66 (by have hl_ := (Kd.R_reads' HO_3.out).1; first | exact q66 | omega); replace p66 := eq_true p66; replace q66 := eq_true q66; obtain ⟨hy73_, hz73_⟩ := Kd.R_celln 0 HO_3.out ((ji58) : Int) (of_decide_eq_true (by assumption)) (by have hl_ := (Kd.R_reads' HO_3.out).1; have hq_ := of_eq_true q66; omega); have HP73 := Kd.R_putg HO_3.out ((ji58) : Int) t179) | ((with_reducible refine gate_store (t := 3) (p := 135) rfl ?_); refine store_event (t := 3) (p := 135) (v := ?vo_w74) (w1 := (w71.setCell ⟨go65, ((ji58) : Int).toNat, none⟩ (.int .i64 t179))) ?hg ?ho ?hn ?hr ?_; (case ho => rfl); (case hg => rfl); (case hn => rfl); (case hr => first | (go_simp; done) | (go_simp; rfl)); intro w74 hw; have hg : w71.grownBy w74 (some go65) := (by rw [hw]; exact HP73.2); have hp_ : Kd.R (Kd.int .i64) 3 w74 w.heap.size (fun _ => True) (.slice (some ⟨go65, 0, none⟩) x3_35.length co9) y181 := (by rw [hw, Ny181.out]; exact HP73.1); clear HP73; replace BK161 := Aside0.mk (blk_grown (g := gb161) (o := .cells #[.int .i64 a0_0, .int .i64 a0_1, .slice A0_2 l0_2.length c0_2, .slice A0_3 l0_3.length c0_3] 30 (0, 0)) (zK BK161) hg (Kd.R_ne HO_3.out BK161.out (by decide))); replace HO_3 := Aside0.mk (hp_); replace HB := Aside0.mk ((by rw [hw]; exact below_set (HB.out) GB65.out : Below w.heap.size w w74)); clear hg hw hp_))
                          (try simp only [← hl3_4, ← hl3_35])
                          first | go_roundg kj35 | ((try subst hji2); (try subst hji25); (try subst hji28); (try subst hji38); (try subst hji41); (try subst hji55); (try subst hji58); go_roundg kj35)
                          case measure => have := HK1.out; have := HK2.out; have := HK3.out; have := HK4.out; have := HJ19.out; have := HJ35.out; omega
                          case rel => exact ⟨(y181), (true), (wrap64 (x7_4 + 1)), zA, zA, H', ⟨by have := HK1.out; have := HK2.out; have := HK3.out; have := HK4.out; have := HJ19.out; have := HJ35.out; omega⟩, ⟨by (try simp only [hl3_1]); (try simp only [hl3_2]); (try simp only [hl3_3]); (try simp only [hl3_4]); (try simp only [hl3_35]); (with_reducible repeat (first | apply Kd.R_alloc | apply Kd.R_drewN | apply Kd.R_drew)); exact HO_3.out⟩, ⟨by (try simp only [hl3_1]); (try simp only [hl3_2]); (try simp only [hl3_3]); (try simp only [hl3_4]); (try simp only [hl3_35]); (with_reducible repeat (first | refine blk_drewN ?_ _ | refine blk_drew ?_ | refine blk_alloc ?_ _)); exact BK161.out⟩, ⟨zB⟩⟩
                        ·rw [if_neg c60] at H
                         exact absurd H (by simp)
                       ·rw [if_neg c59] at H
                        exact absurd H (by simp)
                      ·rw [if_neg c57] at H
                       exact absurd H (by simp)
                     ·rw [if_neg c56] at H
                      exact absurd H (by simp)
                    ·replace c54 := Bool.eq_false_iff.mpr c54
                     subst c54
                     have H1 : (spec_piGroups.l3 kj35 x3_35 x5_35 x6_3 (wrap64 (x7_4 + 1)) a0_0 a0_1 l0_2 l0_3) = some r := by rw [if_neg (show ¬ (false = true) by decide)] at H; exact H
                     clear H
                     have H := H1
                     clear H1
                     have H' := Aside0.mk H
                     clear H
                     try go_wp2
                     replace HO_3 := Aside0.mk (Kd.R_drew HO_3.out)
                     replace BK161 := Aside0.mk (blk_drew BK161.out)
                     replace HB := Aside0.mk (below_drew1 HB.out)
                     refine start_ (n := 25) (S := fun w' => w'.cell? ⟨gb161, 0, none⟩ = some (.int .i64 a0_0) ∧ w'.cell? ⟨gb161, 1, none⟩ = some (.int .i64 a0_1) ∧ w'.cell? ⟨gb161, 2, none⟩ = some (.slice A0_2 l0_2.length c0_2) ∧ w'.cell? ⟨gb161, 3, none⟩ = some (.slice A0_3 l0_3.length c0_3)) (ds := []) (fl 25 0) (by kernel_rfl) rfl rfl zQ (fun hHeld => ?_); refine with_tabW spec_piGroups.tab22 spec_piGroups.bits22 (fun HT_ HW_ => ?_)
                     generalize wc.drew = w75 at HO_3 BK161 HB hHeld ⊢
                     refine zpu 0 (some 88) (fl 25 1) ?_
                     refine zpu 1 (some 89) (fl 25 3) ?_
                     refine zpu 2 (some 90) (fl 25 7) ?_
                     refine ztk 3 (some 91) (fl 25 15) hHeld ?_
                     refine zpu 4 (some 92) (fl 25 31) ?_
                     refine zpu 5 (some 93) (fl 25 63) ?_
                     refine zpu 7 (some 95) (fl 25 191) ?_
                     refine zpu 8 (some 96) (fl 25 447) ?_
                     refine ztk 6 (some 94) (fl 25 511) hHeld ?_
                     refine zone 9 (some 97) (fl 25 1023) (fun K hK => ?_)
                     refine zgo Tryd.func97 #[.agg #[.int .i64 a0_0, .int .i64 a0_1, .slice A0_2 l0_2.length c0_2, .slice A0_3 l0_3.length c0_3], .int .i64 x7_4, .int .i64 x6_3, .bool true] ?_
                     with_reducible refine (spec_piSame.calls kj35 a0_0 a0_1 _ _ l0_2 _ _ l0_3 x7_4 x6_3 true false _ ?side1 ?side2 ?side3 ?side4 A53.out).mono ?_
                     (case side1 => exact zC HR0_2)
                     (case side2 => exact HC0_2.out)
                     (case side3 => exact zC HR0_3)
                     (case side4 => exact HC0_3.out)
                     rintro e w76 ⟨rfl, hb⟩
                     refine ⟨_, rfl, ?_⟩
                     replace HO_3 := Aside0.mk (Kd.R_below (zR HO_3) hb)
                     replace BK161 := zKb BK161 hb
                     replace HB := zBb hb
                     (try clear hb)
                     (try clear hb2)
                     (try clear hk)
                     (try clear hi)
                     refine hK.out _ _ zQ (fun hHeld => ?_)
                     clear hK K
                     refine znm ?_
                     refine zpu 10 (some 98) (fl 25 2047) ?_
                     refine zpu 11 (some 99) (fl 25 4095) ?_
                     refine zpn 12 (some 100) (fl 25 8191) ?_
                     refine zpn 13 (some 101) (fl 25 16383) ?_
                     refine zpn 14 (some 102) (fl 25 32767) ?_
                     refine zpn 15 (some 103) (fl 25 65535) ?_
                     refine zpn 16 (some 104) (fl 25 131071) ?_
                     refine zpn 17 (some 105) (fl 25 262143) ?_
                     refine zpn 18 (some 106) (fl 25 524287) ?_
                     refine zpn 19 (some 107) (fl 25 1048575) ?_
                     refine zpn 20 (some 108) (fl 25 2097151) ?_
                     refine zpn 21 (some 109) (fl 25 4194303) ?_
                     refine zpn 22 (some 110) (fl 25 8388607) ?_
                     refine zpn 23 (some 111) (fl 25 16777215) ?_
                     refine zpu 24 (some 112) (fl 25 33554431) ?_
                     refine done_ (done_of HT_.out (by kernel_rfl)) ?_
                     try go_wp2
                     (try simp only [← hl3_4, ← hl3_35])
                     first | go_roundg kj35 | ((try subst hji2); (try subst hji25); (try subst hji28); (try subst hji38); (try subst hji41); (try subst hji55); (try subst hji58); go_roundg kj35)
                     case measure => have := HK1.out; have := HK2.out; have := HK3.out; have := HK4.out; have := HJ19.out; have := HJ35.out; omega
                     case rel => exact ⟨(x3_35), (x5_35), (wrap64 (x7_4 + 1)), zA, zA, H', ⟨by have := HK1.out; have := HK2.out; have := HK3.out; have := HK4.out; have := HJ19.out; have := HJ35.out; omega⟩, ⟨by (try simp only [hl3_1]); (try simp only [hl3_2]); (try simp only [hl3_3]); (try simp only [hl3_4]); (try simp only [hl3_35]); (with_reducible repeat (first | apply Kd.R_alloc | apply Kd.R_drewN | apply Kd.R_drew)); exact HO_3.out⟩, ⟨by (try simp only [hl3_1]); (try simp only [hl3_2]); (try simp only [hl3_3]); (try simp only [hl3_4]); (try simp only [hl3_35]); (with_reducible repeat (first | refine blk_drewN ?_ _ | refine blk_drew ?_ | refine blk_alloc ?_ _)); exact BK161.out⟩, ⟨zB⟩⟩
                   ·rw [if_neg c52] at H
                    have c52b0 : decide ((wrap64 (x6_3 + 1)) < a0_1) = false := decide_eq_false c52
                    clear c52
                    have H' := Aside0.mk H
                    clear H
                    try go_wp2
                    replace HO_3 := Aside0.mk (Kd.R_drew HO_3.out)
                    replace BK161 := Aside0.mk (blk_drew BK161.out)
                    replace HB := Aside0.mk (below_drew1 HB.out)
                    refine start_ (n := 25) (S := fun w' => w'.cell? ⟨gb161, 0, none⟩ = some (.int .i64 a0_0) ∧ w'.cell? ⟨gb161, 1, none⟩ = some (.int .i64 a0_1) ∧ w'.cell? ⟨gb161, 2, none⟩ = some (.slice A0_2 l0_2.length c0_2) ∧ w'.cell? ⟨gb161, 3, none⟩ = some (.slice A0_3 l0_3.length c0_3)) (ds := []) (fl 25 0) (by kernel_rfl) rfl rfl zQ (fun hHeld => ?_); refine with_tabW spec_piGroups.tab22 spec_piGroups.bits22 (fun HT_ HW_ => ?_)
                    generalize wc.drew = w77 at HO_3 BK161 HB hHeld ⊢
                    refine zpu 0 (some 88) (fl 25 1) ?_
                    refine zpu 1 (some 89) (fl 25 3) ?_
                    refine zpu 2 (some 90) (fl 25 7) ?_
                    refine ztk 3 (some 91) (fl 25 15) hHeld ?_
                    refine zpu 4 (some 92) (fl 25 31) ?_
                    refine zpu 5 (some 93) (fl 25 63) ?_
                    refine zpn 6 (some 94) (fl 25 127) ?_
                    refine zpn 7 (some 95) (fl 25 255) ?_
                    refine zpn 8 (some 96) (fl 25 511) ?_
                    refine zpn 9 (some 97) (fl 25 1023) ?_
                    refine zpu 10 (some 98) (fl 25 2047) ?_
                    refine zpu 11 (some 99) (fl 25 4095) ?_
                    refine zpn 12 (some 100) (fl 25 8191) ?_
                    refine zpn 13 (some 101) (fl 25 16383) ?_
                    refine zpn 14 (some 102) (fl 25 32767) ?_
                    refine zpn 15 (some 103) (fl 25 65535) ?_
                    refine zpn 16 (some 104) (fl 25 131071) ?_
                    refine zpn 17 (some 105) (fl 25 262143) ?_
                    refine zpn 18 (some 106) (fl 25 524287) ?_
                    refine zpn 19 (some 107) (fl 25 1048575) ?_
                    refine zpn 20 (some 108) (fl 25 2097151) ?_
                    refine zpn 21 (some 109) (fl 25 4194303) ?_
                    refine zpn 22 (some 110) (fl 25 8388607) ?_
                    refine zpn 23 (some 111) (fl 25 16777215) ?_
                    refine zpu 24 (some 112) (fl 25 33554431) ?_
                    refine done_ (done_of HT_.out (by kernel_rfl)) ?_
                    try go_wp2
                    (try simp only [← hl3_4, ← hl3_35])
                    first | go_roundg kj35 | ((try subst hji2); (try subst hji25); (try subst hji28); (try subst hji38); (try subst hji41); (try subst hji55); (try subst hji58); go_roundg kj35)
                    case measure => have := HK1.out; have := HK2.out; have := HK3.out; have := HK4.out; have := HJ19.out; have := HJ35.out; omega
                    case rel => exact ⟨(x3_35), (x5_35), (wrap64 (x7_4 + 1)), zA, zA, H', ⟨by have := HK1.out; have := HK2.out; have := HK3.out; have := HK4.out; have := HJ19.out; have := HJ35.out; omega⟩, ⟨by (try simp only [hl3_1]); (try simp only [hl3_2]); (try simp only [hl3_3]); (try simp only [hl3_4]); (try simp only [hl3_35]); (with_reducible repeat (first | apply Kd.R_alloc | apply Kd.R_drewN | apply Kd.R_drew)); exact HO_3.out⟩, ⟨by (try simp only [hl3_1]); (try simp only [hl3_2]); (try simp only [hl3_3]); (try simp only [hl3_4]); (try simp only [hl3_35]); (with_reducible repeat (first | refine blk_drewN ?_ _ | refine blk_drew ?_ | refine blk_alloc ?_ _)); exact BK161.out⟩, ⟨zB⟩⟩
              ·rw [if_neg c19] at H
               have c19b0 : decide (x7_4 < a0_0) = false := decide_eq_false c19
               clear c19
               have H' := Aside0.mk H
               clear H
               obtain ⟨hcz78_0, hcz78_1, hcz78_2, hcz78_3, hfz78_0, hfz78_1, hfz78_2, hfz78_3⟩ := blk4 BK161
               go_wp2
               (try simp only [← hl3_3, ← hl3_4])
               first | go_roundg k4 | ((try subst hji2); (try subst hji25); (try subst hji28); (try subst hji38); (try subst hji41); (try subst hji55); (try subst hji58); go_roundg k4)
               case measure => have := HK1.out; have := HK2.out; have := HK3.out; have := HK4.out; omega
               case rel => exact ⟨(x3_4), (x5_4), (wrap64 (x6_3 + 1)), zA, zA, H', ⟨by have := HK1.out; have := HK2.out; have := HK3.out; have := HK4.out; omega⟩, ⟨by (try simp only [hl3_1]); (try simp only [hl3_2]); (try simp only [hl3_3]); (try simp only [hl3_4]); (with_reducible repeat (first | apply Kd.R_alloc | apply Kd.R_drewN | apply Kd.R_drew)); exact HO_3.out⟩, ⟨by (try simp only [hl3_1]); (try simp only [hl3_2]); (try simp only [hl3_3]); (try simp only [hl3_4]); (with_reducible repeat (first | refine blk_drewN ?_ _ | refine blk_drew ?_ | refine blk_alloc ?_ _)); exact BK161.out⟩, ⟨zB⟩⟩
           ·rw [if_neg c17] at H
            have c17b0 : decide (x6_3 < a0_1) = false := decide_eq_false c17
            clear c17
            have H' := Aside0.mk H
            clear H
            obtain ⟨hcz79_0, hcz79_1, hcz79_2, hcz79_3, hfz79_0, hfz79_1, hfz79_2, hfz79_3⟩ := blk4 BK161
            go_wp2
            (try simp only [← hl3_2, ← hl3_3])
            first | go_roundg k3 | ((try subst hji2); (try subst hji25); (try subst hji28); (try subst hji38); (try subst hji41); (try subst hji55); (try subst hji58); go_roundg k3)
            case measure => have := HK1.out; have := HK2.out; have := HK3.out; omega
            case rel => exact ⟨(x3_3), (x5_3), zA, H', ⟨by have := HK1.out; have := HK2.out; have := HK3.out; omega⟩, ⟨by (try simp only [hl3_1]); (try simp only [hl3_2]); (try simp only [hl3_3]); (with_reducible repeat (first | apply Kd.R_alloc | apply Kd.R_drewN | apply Kd.R_drew)); exact HO_3.out⟩, ⟨by (try simp only [hl3_1]); (try simp only [hl3_2]); (try simp only [hl3_3]); (with_reducible repeat (first | refine blk_drewN ?_ _ | refine blk_drew ?_ | refine blk_alloc ?_ _)); exact BK161.out⟩, ⟨zB⟩⟩
        ·replace c16 := Bool.eq_false_iff.mpr c16
         subst c16
         have H1 : (some x3_2) = some r := by rw [if_neg (show ¬ (false = true) by decide)] at H; exact H
         clear H
         have H := H1
         clear H1
         obtain rfl := Option.some.inj H
         go_wp2
         go_ret
         exact ⟨_, by first | rfl | (simp [errW_none, errW_some] <;> rfl) | (simp only [← hji2]; first | rfl | (simp [errW_none, errW_some] <;> rfl)) | (simp [*, errW_none, errW_some] <;> rfl), zR HO_3, zB⟩
  ·rw [if_neg c4] at H
   exact absurd H (by simp)
 ·rw [if_neg c3] at H
  exact absurd H (by simp)

end Go.Proofs.YtfkbjflndkjlnaaDoor.P
