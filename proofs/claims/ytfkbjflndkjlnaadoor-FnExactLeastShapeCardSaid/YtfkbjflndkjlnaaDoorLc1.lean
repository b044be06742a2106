import Derived.Test.YtfkbjflndkjlnaaDoorLd
import Derived.Test.YtfkbjflndkjlnaaDoorLc0
namespace Go.Proofs.YtfkbjflndkjlnaaDoor.L
open Go.RowKit Go.Proofs.YtfkbjflndkjlnaaDoorW.PrintWords Go.Proofs.YtfkbjflndkjlnaaDoorW.PrintLast Go.Proofs.YtfkbjflndkjlnaaDoorW.PrintMore
attribute [local go_sem] max2_int min2_int max_two min_two max_three min_three max_four min_four
set_option linter.unusedVariables false
set_option linter.unusedSimpArgs false

/-! ### spec_piIs: function 21 -/
set_option maxHeartbeats 8000000 in
set_option maxRecDepth 100000 in
theorem spec_piIs.calls (k : Nat) (a0 : ByteArray) (r : Bool) (w : World) (h : spec_piIs.f k a0 = some r) :
  Calls Tryd.prog 21 #[.string a0] w fun e w' => e = .returned (.bool r) ∧ Below w.heap.size w w' := by
 have HB := Aside0.mk (Below.refl w.heap.size w)
 have H : (if (a0.size : Int) > 200 then (spec_piIs.j0 k a0 true) else (spec_piIs.j0 k a0 (a0.toList == ([] : List UInt8)))) = some r := h
 clear h
 have HC2 := Aside0.mk H
 clear H
 go_enter Tryd.func21, Tryd.ntmps21
 go_upto_region 1 with (fail)
 go_cut [21] (fun v21 wc => ∃ (kq : Nat) (x21_1 : Bool), v21 = .bool x21_1 ∧ Aside0 (spec_piIs.j0 kq a0 x21_1 = some r) ∧ Aside0 (kq ≤ k) ∧ Aside0 (Below w.heap.size w wc))
 case first =>
  have H := HC2.out
  clear HC2
  by_cases c3 : (a0.size : Int) > 200
  ·rw [if_pos c3] at H
   have c3b0 : decide (200 < (a0.size : Int)) = true := decide_eq_true c3
   have c3b1 : decide (200 < a0.size) = true := decide_eq_true (by omega)
   clear c3
   (first | rw [c3b0] | (simp only [i64_w, i32_w]; rw [c3b0]) | skip)
   have H' := Aside0.mk H
   clear H
   go_wp2
   go_meet
   case rel => exact ⟨_, (true), zA, H', ⟨by first | omega | exact Nat.le_refl _⟩, ⟨zB⟩⟩
  ·rw [if_neg c3] at H
   have c3b0 : decide (200 < (a0.size : Int)) = false := decide_eq_false c3
   have c3b1 : decide (200 < a0.size) = false := decide_eq_false (by omega)
   clear c3
   (first | rw [c3b0] | (simp only [i64_w, i32_w]; rw [c3b0]) | skip)
   have H' := Aside0.mk H
   clear H
   go_wp2
   go_meet
   case rel => exact ⟨_, ((a0.toList == ([] : List UInt8))), zA, H', ⟨by first | omega | exact Nat.le_refl _⟩, ⟨zB⟩⟩
 case rest =>
  clear HC2
  (try clear c2); (try clear p2); (try clear c3); (try clear c3b0); (try clear c3b1)
  obtain ⟨kq, x21_1, rfl, HA, HJ1, HB⟩ := hcut
  cases kq with
  | zero => exact absurd HA.out (by simp [spec_piIs.j0])
  | succ kj1 =>
   have H := HA.out
   clear HA
   simp only [spec_piIs.j0] at H
   by_cases c4 : x21_1 = true
   ·subst c4
    have H1 : (some false) = some r := by rw [if_pos rfl] at H; exact H
    clear H
    have H := H1
    clear H1
    obtain rfl := Option.some.inj H
    go_wp2
    go_ret
    exact ⟨zE, zB⟩
   ·replace c4 := Bool.eq_false_iff.mpr c4
    subst c4
    have H1 : ((spec_piRows.f kj1 a0).bind fun t123 => (if 0 < (t123.length : Int) then (if ((rdOf ByteArray.empty t123 0).size : Int) = 0 then (some false) else (spec_piIs.l0 kj1 a0 ((rdOf ByteArray.empty t123 0).size : Int) ([] : List Int) t123 (t123.length : Int) 0)) else (none))) = some r := by rw [if_neg (show ¬ (false = true) by decide)] at H; exact H
    clear H
    have H := H1
    clear H1
    replace H := Option.bind_eq_some_iff.mp H
    obtain ⟨t123, A50, H⟩ := H
    replace H : (if 0 < (t123.length : Int) then (if ((rdOf ByteArray.empty t123 0).size : Int) = 0 then (some false) else (spec_piIs.l0 kj1 a0 ((rdOf ByteArray.empty t123 0).size : Int) ([] : List Int) t123 (t123.length : Int) 0)) else (none)) = some r := H
    have A5 := Aside0.mk A50
    clear A50
    by_cases c6 : 0 < (t123.length : Int)
    ·rw [if_pos c6] at H
     have c6b0 : decide (0 < (t123.length : Int)) = true := decide_eq_true c6
     have c6b1 : decide (0 < t123.length) = true := decide_eq_true (by omega)
     clear c6
     by_cases c7 : ((rdOf ByteArray.empty t123 0).size : Int) = 0
     ·rw [if_pos c7] at H
      have c7b0 : (((rdOf ByteArray.empty t123 0).size : Int) == 0) = true := beq_iff_eq.mpr c7
      have c7b1 : (((rdOf ByteArray.empty t123 0).size : Int) != 0) = false := bne_eq_false_iff_eq.mpr c7
      clear c7
      obtain rfl := Option.some.inj H
      go_wp2_with (first | ((with_reducible refine gate_callee (f := 49) rfl ?_); refine goesL_ (some 23) rfl rfl Tryd.func49 (by kernel_rfl) rfl #[.string a0] rfl zM ?_; (with_reducible refine (spec_piRows.calls kj1 a0 t123 _ A5.out).mono ?_); rintro e w8 ⟨v124, rfl, ho0, hb⟩; refine ⟨_, rfl, ?_⟩; have HO125 := Aside0.mk (Kd.R_lower ho0 (below_size zB)); replace HB := zBb hb; (try clear hb); (try clear hb2); (try clear hk); (try clear hi); (try clear ho0); obtain ⟨Ao9, co9, eo9⟩ := Kd.R_slice HO125.out; subst eo9; have p126 : 0 ≤ (0 : Int) := (by omega); have q126 : 0 < (t123.length : Int) := of_decide_eq_true (by assumption); obtain ⟨ad126, e126, hx126_0⟩ := Kd.at_string (Kd.R_reads' HO125.out).2.2 0 p126 q126; cases e126; have qi126 : (0 < t123.length) = True := eq_true (by omega); (try rw [show ((0 : Int)).toNat = 0 from rfl] at hx126_0); (try rw [Addr.add_zero'] at hx126_0); replace p126 := eq_true p126; replace q126 := eq_true q126))
      go_ret
      exact ⟨zE, zB⟩
     ·rw [if_neg c7] at H
      have c7b0 : (((rdOf ByteArray.empty t123 0).size : Int) == 0) = false := beq_eq_false_iff_ne.mpr c7
      have c7b1 : (((rdOf ByteArray.empty t123 0).size : Int) != 0) = true := bne_iff_ne.mpr c7
      have H' := Aside0.mk H
      clear H
      go_wp2_with (first | ((with_reducible refine gate_callee (f := 49) rfl ?_); refine goesL_ (some 23) rfl rfl Tryd.func49 (by kernel_rfl) rfl #[.string a0] rfl zM ?_; (with_reducible refine (spec_piRows.calls kj1 a0 t123 _ A5.out).mono ?_); rintro e w10 ⟨v124, rfl, ho0, hb⟩; refine ⟨_, rfl, ?_⟩; have HO125 := Aside0.mk (Kd.R_lower ho0 (below_size zB)); replace HB := zBb hb; (try clear hb); (try clear hb2); (try clear hk); (try clear hi); (try clear ho0); obtain ⟨Ao11, co11, eo11⟩ := Kd.R_slice HO125.out; subst eo11; have p126 : 0 ≤ (0 : Int) := (by omega); have q126 : 0 < (t123.length : Int) := of_decide_eq_true (by assumption); obtain ⟨ad126, e126, hx126_0⟩ := Kd.at_string (Kd.R_reads' HO125.out).2.2 0 p126 q126; cases e126; have qi126 : (0 < t123.length) = True := eq_true (by omega); (try rw [show ((0 : Int)).toNat = 0 from rfl] at hx126_0); (try rw [Addr.add_zero'] at hx126_0); replace p126 := eq_true p126; replace q126 := eq_true q126))
      go_loopg [5, 32] kj1 (fun kq v5 v32 w' => ∃ (x5_2 : List Int) (x32_2 : Int), v32 = .int .i64 x32_2 ∧ Aside0 (spec_piIs.l0 kq a0 ((rdOf ByteArray.empty t123 0).size : Int) x5_2 t123 (t123.length : Int) x32_2 = some r) ∧ Aside0 (kq ≤ kj1) ∧ Aside0 (Kd.R (Kd.int .i64) 3 w' w.heap.size (fun _ => True) v5 x5_2) ∧ Aside0 (Kd.R Kd.string 9 w' w.heap.size (fun _ => True) (.slice (some ad126) t123.length co11) t123) ∧ Aside0 (Below w.heap.size w w'))
      case atStart => exact ⟨(([] : List Int)), (0), zA, H', ⟨Nat.le_refl _⟩, ⟨by first | exact Kd.R_nil _ _ _ _ _ | exact Kd.N_nil _ _ _ _ _ | exact Kd.V_nil _ _ _ _ _ | exact Kd.Q_nil _ _ _ _ _ | exact Kd.S_nil _ _ _ _ _⟩, ⟨zR HO125⟩, ⟨zB⟩⟩
      case round =>
       clear H'
       (try clear p1); (try clear q1); (try clear hx1); (try clear qi1); (try clear c2); (try clear p2); (try clear c3); (try clear c3b0); (try clear c3b1); (try clear c4); (try clear c6); (try clear c6b0); (try clear c6b1); (try clear c7); (try clear c7b0); (try clear c7b1); (try clear hx126_0); (try clear p126); (try clear p2); (try clear q126)
       obtain ⟨x5_2, x32_2, rfl, HA, HK2, HO_5, HO_30, HB⟩ := hrel
       cases gk with
       | zero => exact absurd HA.out (by simp [spec_piIs.l0])
       | succ k2 =>
        have H := HA.out
        clear HA
        simp only [spec_piIs.l0] at H
        by_cases c12 : x32_2 < (t123.length : Int)
        ·rw [if_pos c12] at H
         have c12b0 : decide (x32_2 < (t123.length : Int)) = true := decide_eq_true c12
         clear c12
         by_cases c13 : 0 ≤ x32_2
         ·rw [if_pos c13] at H
          have c13b0 : decide (0 ≤ x32_2) = true := decide_eq_true c13
          clear c13
          by_cases c14 : x32_2 < (t123.length : Int)
          ·rw [if_pos c14] at H
           have c14b0 : decide (x32_2 < (t123.length : Int)) = true := decide_eq_true c14
           clear c14
           by_cases c15 : ((rdOf ByteArray.empty t123 x32_2).size : Int) = ((rdOf ByteArray.empty t123 0).size : Int)
           ·rw [if_pos c15] at H
            have c15b0 : (((rdOf ByteArray.empty t123 x32_2).size : Int) == ((rdOf ByteArray.empty t123 0).size : Int)) = true := beq_iff_eq.mpr c15
            have c15b1 : (((rdOf ByteArray.empty t123 x32_2).size : Int) != ((rdOf ByteArray.empty t123 0).size : Int)) = false := bne_eq_false_iff_eq.mpr c15
            have c15b2 : ((rdOf ByteArray.empty t123 x32_2).size == (rdOf ByteArray.empty t123 0).size) = true := by first | simpa using c15 | (simp at c15 ⊢; omega)
            clear c15
            have H' := Aside0.mk H
            clear H
            have p127 : 0 ≤ (x32_2 : Int) := of_decide_eq_true (by assumption)
            have q127 : x32_2 < (t123.length : Int) := of_decide_eq_true (by assumption)
            obtain ⟨ad127, e127, hx127_0⟩ := Kd.at_string (Kd.R_reads' HO_30.out).2.2 x32_2 p127 q127
            obtain rfl : ad126 = ad127 := (by injection e127)
            replace p127 := eq_true p127
            replace q127 := eq_true q127
            go_wp2
            go_loopg [5, 8] k2 (fun kq v5 v8 w' => ∃ (x5_3 : List Int) (x8_3 : Int), v8 = .int .i64 x8_3 ∧ Aside0 (spec_piIs.l1 kq a0 ((rdOf ByteArray.empty t123 0).size : Int) x5_3 x32_2 (rdOf ByteArray.empty t123 x32_2) x8_3 t123 (t123.length : Int) x32_2 = some r) ∧ Aside0 (kq ≤ k2) ∧ Aside0 (Kd.R (Kd.int .i64) 3 w' w.heap.size (fun _ => True) v5 x5_3) ∧ Aside0 (Kd.R Kd.string 9 w' w.heap.size (fun _ => True) (.slice (some ad126) t123.length co11) t123) ∧ Aside0 (Below w.heap.size w w'))
            case atStart => exact ⟨(x5_2), (0), zA, H', ⟨Nat.le_refl _⟩, ⟨zR HO_5⟩, ⟨zR HO_30⟩, ⟨zB⟩⟩
            case round =>
             clear H'
             (try clear c1); (try clear p1); (try clear q1); (try clear hx1); (try clear qi1); (try clear c2); (try clear p2); (try clear c3); (try clear c3b0); (try clear c3b1); (try clear c4); (try clear c6); (try clear c6b0); (try clear c6b1); (try clear c7); (try clear c7b0); (try clear c7b1); (try clear c12); (try clear c12b0); (try clear p12); (try clear q12); (try clear hx12); (try clear qi12); (try clear c13); (try clear c13b0); (try clear c14); (try clear c14b0); (try clear c15); (try clear c15b0); (try clear c15b1); (try clear c15b2); (try clear hx126_0); (try clear hx127_0); (try clear p1); (try clear p126); (try clear p127); (try clear p2); (try clear q1); (try clear q126); (try clear q127)
             obtain ⟨x5_3, x8_3, rfl, HA, HK3, HO_5, HO_30, HB⟩ := hrel
             cases gk with
             | zero => exact absurd HA.out (by simp [spec_piIs.l1])
             | succ k3 =>
              have H := HA.out
              clear HA
              simp only [spec_piIs.l1] at H
              by_cases c16 : x8_3 < ((rdOf ByteArray.empty t123 0).size : Int)
              ·rw [if_pos c16] at H
               have c16b0 : decide (x8_3 < ((rdOf ByteArray.empty t123 0).size : Int)) = true := decide_eq_true c16
               clear c16
               by_cases c17 : 0 ≤ x8_3
               ·rw [if_pos c17] at H
                have c17b0 : decide (0 ≤ x8_3) = true := decide_eq_true c17
                clear c17
                by_cases c18 : x8_3 < ((rdOf ByteArray.empty t123 x32_2).size : Int)
                ·rw [if_pos c18] at H
                 have c18b0 : decide (x8_3 < ((rdOf ByteArray.empty t123 x32_2).size : Int)) = true := decide_eq_true c18
                 clear c18
                 by_cases c20 : (bt (rdOf ByteArray.empty t123 x32_2) x8_3) = 111
                 ·rw [if_pos c20] at H
                  have c20b0 : ((bt (rdOf ByteArray.empty t123 x32_2) x8_3) == 111) = true := beq_iff_eq.mpr c20
                  have c20b1 : ((bt (rdOf ByteArray.empty t123 x32_2) x8_3) != 111) = false := bne_eq_false_iff_eq.mpr c20
                  clear c20
                  by_cases c21 : x5_3.length < 17592186044416
                  ·rw [if_pos c21] at H
                   have LMc21 := Aside0.mk c21
                   clear c21
                   obtain ⟨y128, hy128⟩ : ∃ y_ : List Int, y_ = (x5_3 ++ [wrap64 ((wrap64 (x32_2 * ((rdOf ByteArray.empty t123 0).size : Int))) + x8_3)]) := ⟨_, rfl⟩
                   replace H : (spec_piIs.l1 k3 a0 ((rdOf ByteArray.empty t123 0).size : Int) y128 x32_2 (rdOf ByteArray.empty t123 x32_2) (wrap64 (x8_3 + 1)) t123 (t123.length : Int) x32_2) = some r := by first | (rw [hy128]; with_reducible exact H) | (have H2_ := (Option.bind_some _ _).symm.trans H; rw [hy128]; with_reducible exact H2_) | (have H2_ := (Option.bind_some _ _).symm.trans H; with_reducible exact H2_) | with_reducible exact H | (rw [hy128]; exact H) | exact H
                   have Ny128 := Aside0.mk hy128
                   clear hy128
                   have H' := Aside0.mk H
                   clear H
                   have p19 : 0 ≤ (x8_3 : Int) := of_decide_eq_true (by assumption)
                   have q19 : x8_3 < ((rdOf ByteArray.empty t123 x32_2).size : Int) := of_decide_eq_true (by assumption)
                   have hx19 := bt_at (rdOf ByteArray.empty t123 x32_2) x8_3
                   replace p19 := eq_true p19
                   replace q19 := eq_true q19
                   go_wp2_with (first | ((with_reducible refine gate_builtin (b := .append) (xs := #[.tmp 51, .tmp 57]) rfl ?_); at_builtin; refine Kd.R_append (Kd.int .i64) (w0 := w) w.heap.size rfl (.tmp 51) (.tmp 57) 25 3 (.int .i64 0) 8 rfl Tryd.underlying25 info3 rfl (by decide) (by omega) u5 x5_3 (wrap64 ((wrap64 (x32_2 * ((rdOf ByteArray.empty t123 0).size : Int))) + x8_3)) [.int .i64 (wrap64 ((wrap64 (x32_2 * ((rdOf ByteArray.empty t123 0).size : Int))) + x8_3))] (fun _ => True) (fun _ => False) rfl rfl ?aP (fun _ hk => hk.elim) ?aF ?aO ?aB ?aS ?aL ?_; (case aP => exact rfl); (case aB => exact zB); (case aF => exact (fun _ _ => trivial)); (case aO => exact (zR HO_5)); (case aS => exact (below_size zB)); (case aL => have := LMc21.out; omega); intro v129 w22 ho hb hg hat; rw [← Ny128.out] at ho; have n0_ := Aside0.mk (Kd.R_over' (zR HO_30) (Kd.R_typed (zR HO_5)) (by decide) hg); have n1_ := Aside0.mk (hb); have n2_ := Aside0.mk (ho); clear HO_30; clear HB; clear HO_5; have HO_30 := n0_; have HB := n1_; have HO130 := n2_; clear n0_ n1_ n2_; clear ho hb hg hat))
                   go_roundg k3
                   case measure => have := HJ1.out; have := HK2.out; have := HK3.out; omega
                   case rel => exact ⟨(y128), (wrap64 (x8_3 + 1)), zA, H', ⟨by have := HJ1.out; have := HK2.out; have := HK3.out; omega⟩, ⟨zR HO130⟩, ⟨zR HO_30⟩, ⟨zB⟩⟩
                  ·rw [if_neg c21] at H
                   exact absurd H (by simp)
                 ·rw [if_neg c20] at H
                  have c20b0 : ((bt (rdOf ByteArray.empty t123 x32_2) x8_3) == 111) = false := beq_eq_false_iff_ne.mpr c20
                  have c20b1 : ((bt (rdOf ByteArray.empty t123 x32_2) x8_3) != 111) = true := bne_iff_ne.mpr c20
                  by_cases c23 : (bt (rdOf ByteArray.empty t123 x32_2) x8_3) = 46
                  ·rw [if_pos c23] at H
                   have c23b0 : ((bt (rdOf ByteArray.empty t123 x32_2) x8_3) == 46) = true := beq_iff_eq.mpr c23
                   have c23b1 : ((bt (rdOf ByteArray.empty t123 x32_2) x8_3) != 46) = false := bne_eq_false_iff_eq.mpr c23
                   clear c23
                   have H' := Aside0.mk H
                   clear H
                   have p19 : 0 ≤ (x8_3 : Int) := of_decide_eq_true (by assumption)
                   have q19 : x8_3 < ((rdOf ByteArray.empty t123 x32_2).size : Int) := of_decide_eq_true (by assumption)
                   have hx19 := bt_at (rdOf ByteArray.empty t123 x32_2) x8_3
                   replace p19 := eq_true p19
                   replace q19 := eq_true q19
                   go_wp2
                   go_roundg k3
                   case measure => have := HJ1.out; have := HK2.out; have := HK3.out; omega
                   case rel => exact ⟨(x5_3), (wrap64 (x8_3 + 1)), zA, H', ⟨by have := HJ1.out; have := HK2.out; have := HK3.out; omega⟩, ⟨zR HO_5⟩, ⟨zR HO_30⟩, ⟨zB⟩⟩
                  ·rw [if_neg c23] at H
                   have c23b0 : ((bt (rdOf ByteArray.empty t123 x32_2) x8_3) == 46) = false := beq_eq_false_iff_ne.mpr c23
                   have c23b1 : ((bt (rdOf ByteArray.empty t123 x32_2) x8_3) != 46) = true := bne_iff_ne.mpr c23
                   obtain rfl := Option.some.inj H
                   have p19 : 0 ≤ (x8_3 : Int) := of_decide_eq_true (by assumption)
                   have q19 : x8_3 < ((rdOf ByteArray.empty t123 x32_2).size : Int) := of_decide_eq_true (by assumption)
                   have hx19 := bt_at (rdOf ByteArray.empty t123 x32_2) x8_3
                   replace p19 := eq_true p19
                   replace q19 := eq_true q19
                   go_wp2
                   go_ret
                   exact ⟨zE, zB⟩
                ·rw [if_neg c18] at H
                 exact absurd H (by simp)
               ·rw [if_neg c17] at H
                exact absurd H (by simp)
              ·rw [if_neg c16] at H
               have c16b0 : decide (x8_3 < ((rdOf ByteArray.empty t123 0).size : Int)) = false := decide_eq_false c16
               clear c16
               have H' := Aside0.mk H
               clear H
               go_wp2
               go_roundg k3
               case measure => have := HJ1.out; have := HK2.out; have := HK3.out; omega
               case rel => exact ⟨(x5_3), (wrap64 (x32_2 + 1)), zA, H', ⟨by have := HJ1.out; have := HK2.out; have := HK3.out; omega⟩, ⟨zR HO_5⟩, ⟨zR HO_30⟩, ⟨zB⟩⟩
           ·rw [if_neg c15] at H
            have c15b0 : (((rdOf ByteArray.empty t123 x32_2).size : Int) == ((rdOf ByteArray.empty t123 0).size : Int)) = false := beq_eq_false_iff_ne.mpr c15
            have c15b1 : (((rdOf ByteArray.empty t123 x32_2).size : Int) != ((rdOf ByteArray.empty t123 0).size : Int)) = true := bne_iff_ne.mpr c15
            have c15b2 : ((rdOf ByteArray.empty t123 x32_2).size == (rdOf ByteArray.empty t123 0).size) = false := by first | simpa using c15 | (simp at c15 ⊢; omega)
            obtain rfl := Option.some.inj H
            have p127 : 0 ≤ (x32_2 : Int) := of_decide_eq_true (by assumption)
            have q127 : x32_2 < (t123.length : Int) := of_decide_eq_true (by assumption)
            obtain ⟨ad127, e127, hx127_0⟩ := Kd.at_string (Kd.R_reads' HO_30.out).2.2 x32_2 p127 q127
            obtain rfl : ad126 = ad127 := (by injection e127)
            replace p127 := eq_true p127
            replace q127 := eq_true q127
            go_wp2
            go_ret
            exact ⟨zE, zB⟩
          ·rw [if_neg c14] at H
           exact absurd H (by simp)
         ·rw [if_neg c13] at H
          exact absurd H (by simp)
        ·rw [if_neg c12] at H
         have c12b0 : decide (x32_2 < (t123.length : Int)) = false := decide_eq_false c12
         clear c12
         have HC24 := Aside0.mk H
         clear H
         go_upto_region 22 with (fail)
         go_cut [72] (fun v72 wc => ∃ (kq : Nat) (x72_23 : Bool), v72 = .bool x72_23 ∧ Aside0 (spec_piIs.j3 kq ((rdOf ByteArray.empty t123 0).size : Int) x5_2 x72_23 = some r) ∧ Aside0 (kq ≤ k2) ∧ Aside0 (Kd.R (Kd.int .i64) 3 wc w.heap.size (fun _ => True) u5 x5_2) ∧ Aside0 (Below w.heap.size w wc))
         case first =>
          have H := HC24.out
          clear HC24
          replace H := Option.bind_eq_some_iff.mp H
          obtain ⟨t131, A250, H⟩ := H
          replace H : (if t131 = true then ((spec_piText.f k2 ((rdOf ByteArray.empty t123 0).size : Int) x5_2).bind fun t132 => (spec_piIs.j3 k2 ((rdOf ByteArray.empty t123 0).size : Int) x5_2 (t132.toList != a0.toList))) else (spec_piIs.j3 k2 ((rdOf ByteArray.empty t123 0).size : Int) x5_2 true)) = some r := H
          have A25 := Aside0.mk A250
          clear A250
          by_cases c26 : t131 = true
          ·subst c26
           have H1 : ((spec_piText.f k2 ((rdOf ByteArray.empty t123 0).size : Int) x5_2).bind fun t132 => (spec_piIs.j3 k2 ((rdOf ByteArray.empty t123 0).size : Int) x5_2 (t132.toList != a0.toList))) = some r := by rw [if_pos rfl] at H; exact H
           clear H
           have H := H1
           clear H1
           replace H := Option.bind_eq_some_iff.mp H
           obtain ⟨t132, A270, H⟩ := H
           replace H : (spec_piIs.j3 k2 ((rdOf ByteArray.empty t123 0).size : Int) x5_2 (t132.toList != a0.toList)) = some r := H
           have A27 := Aside0.mk A270
           clear A270
           have H' := Aside0.mk H
           clear H
           obtain ⟨Ao28, co28, eo28⟩ := Kd.R_slice HO_5.out
           subst eo28
           go_wp2_with (first | ((with_reducible refine gate_callee (f := 34) rfl ?_); refine goesL_ (some 64) rfl rfl Tryd.func34 (by kernel_rfl) rfl #[.int .i64 (x5_2.length : Int), .int .i64 1, .int .i64 12] rfl zM ?_; (with_reducible refine (spec_l1In.calls (x5_2.length : Int) 1 12 true _ A25.out).mono ?_); rintro e w' ⟨rfl, ⟨nd, rfl⟩⟩; refine ⟨_, rfl, ?_⟩) | (go_at_call 37; (with_reducible refine (spec_piText.calls k2 ((rdOf ByteArray.empty t123 0).size : Int) _ _ x5_2 t132 _ ?side1 ?side2 A27.out).mono ?_); (case side1 => exact zKr (Kd.R_reads' HO_5.out).2.2); (case side2 => exact (Kd.R_reads' HO_5.out).2.1); rintro e w' ⟨rfl, ⟨nd, rfl⟩⟩))
           go_meet
           case rel => exact ⟨_, ((t132.toList != a0.toList)), zA, H', ⟨by have := HJ1.out; have := HK2.out; first | omega | exact Nat.le_refl _⟩, ⟨zR HO_5⟩, ⟨zB⟩⟩
          ·replace c26 := Bool.eq_false_iff.mpr c26
           subst c26
           have H1 : (spec_piIs.j3 k2 ((rdOf ByteArray.empty t123 0).size : Int) x5_2 true) = some r := by rw [if_neg (show ¬ (false = true) by decide)] at H; exact H
           clear H
           have H := H1
           clear H1
           have H' := Aside0.mk H
           clear H
           obtain ⟨Ao29, co29, eo29⟩ := Kd.R_slice HO_5.out
           subst eo29
           go_wp2_with (first | ((with_reducible refine gate_callee (f := 34) rfl ?_); refine goesL_ (some 64) rfl rfl Tryd.func34 (by kernel_rfl) rfl #[.int .i64 (x5_2.length : Int), .int .i64 1, .int .i64 12] rfl zM ?_; (with_reducible refine (spec_l1In.calls (x5_2.length : Int) 1 12 false _ A25.out).mono ?_); rintro e w' ⟨rfl, ⟨nd, rfl⟩⟩; refine ⟨_, rfl, ?_⟩))
           go_meet
           case rel => exact ⟨_, (true), zA, H', ⟨by have := HJ1.out; have := HK2.out; first | omega | exact Nat.le_refl _⟩, ⟨zR HO_5⟩, ⟨zB⟩⟩
         case rest =>
          clear HC24
          (try clear c1); (try clear p1); (try clear q1); (try clear hx1); (try clear qi1); (try clear c2); (try clear p2); (try clear c3); (try clear c3b0); (try clear c3b1); (try clear c4); (try clear c6); (try clear c6b0); (try clear c6b1); (try clear p6); (try clear c7); (try clear c7b0); (try clear c7b1); (try clear c12); (try clear c12b0); (try clear p12); (try clear q12); (try clear hx12); (try clear qi12); (try clear c13); (try clear c13b0); (try clear c14); (try clear c14b0); (try clear c15); (try clear c15b0); (try clear c15b1); (try clear c15b2); (try clear c16); (try clear c16b0); (try clear c17); (try clear c17b0); (try clear c18); (try clear c18b0); (try clear p19); (try clear q19); (try clear hx19); (try clear c20); (try clear c20b0); (try clear c20b1); (try clear c21); (try clear c23); (try clear c23b0); (try clear c23b1); (try clear c26); (try clear hx126_0); (try clear hx127_0); (try clear p1); (try clear p12); (try clear p126); (try clear p127); (try clear p19); (try clear p2); (try clear q1); (try clear q12); (try clear q126); (try clear q127); (try clear q19)
          obtain ⟨kq, x72_23, rfl, HA, HJ23, HO_5, HB⟩ := hcut
          cases kq with
          | zero => exact absurd HA.out (by simp [spec_piIs.j3])
          | succ kj23 =>
           have H := HA.out
           clear HA
           simp only [spec_piIs.j3] at H
           by_cases c30 : x72_23 = true
           ·subst c30
            have H1 : (some false) = some r := by rw [if_pos rfl] at H; exact H
            clear H
            have H := H1
            clear H1
            obtain rfl := Option.some.inj H
            go_wp2
            go_ret
            exact ⟨zE, zB⟩
           ·replace c30 := Bool.eq_false_iff.mpr c30
            subst c30
            have H1 : (if 0 < (x5_2.length : Int) then (spec_piIs.l2 kj23 ((rdOf ByteArray.empty t123 0).size : Int) x5_2 (([rd x5_2 0] : List Int)) 0) else (none)) = some r := by rw [if_neg (show ¬ (false = true) by decide)] at H; exact H
            clear H
            have H := H1
            clear H1
            by_cases c31 : 0 < (x5_2.length : Int)
            ·rw [if_pos c31] at H
             have c31b0 : decide (0 < (x5_2.length : Int)) = true := decide_eq_true c31
             have c31b1 : decide (0 < x5_2.length) = true := decide_eq_true (by omega)
             clear c31
             obtain ⟨y134, hy134⟩ : ∃ y_ : List Int, y_ = (([rd x5_2 0] : List Int)) := ⟨_, rfl⟩
             replace H : (spec_piIs.l2 kj23 ((rdOf ByteArray.empty t123 0).size : Int) x5_2 y134 0) = some r := by first | (rw [hy134]; with_reducible exact H) | (have H2_ := (Option.bind_some _ _).symm.trans H; rw [hy134]; with_reducible exact H2_) | (have H2_ := (Option.bind_some _ _).symm.trans H; with_reducible exact H2_) | with_reducible exact H | (rw [hy134]; exact H) | exact H
             have Ny134 := Aside0.mk hy134
             clear hy134
             have H' := Aside0.mk H
             clear H
             obtain ⟨Ao32, co32, eo32⟩ := Kd.R_slice HO_5.out
             subst eo32
             have p133 : 0 ≤ (0 : Int) := (by omega)
             have q133 : 0 < (x5_2.length : Int) := of_decide_eq_true (by assumption)
             obtain ⟨ad133, e133, hx133_0⟩ := Kd.at_int (Kd.R_reads' HO_5.out).2.2 0 p133 q133
             cases e133
             have qi133 : (0 < x5_2.length) = True := eq_true (by omega)
             (try rw [show ((0 : Int)).toNat = 0 from rfl] at hx133_0)
             (try rw [Addr.add_zero'] at hx133_0)
             replace p133 := eq_true p133
             replace q133 := eq_true q133
             go_wp2_with (first | ((with_reducible refine gate_dst (N := 76) rfl ?_); refine Kd.R_lit (Kd.int .i64) _ 3 ?hg (N := 76) ?hd (xs := ([rd x5_2 0] : List Int)) (inner := [.int .i64 (rd x5_2 0)]) (ok := fun _ => True) (okp := fun _ => True) ?hr ?hp (fun _ hk => hk) trivial (Below.refl _ _) (Nat.le_refl _) (by simp) ?_; (case hd => rfl); (case hg => rfl); (case hr => first | (go_simp; done) | (go_simp; rfl)); (case hp => exact (Reps.one (show Kd.M (Kd.int .i64) _ _ _ (rd x5_2 0) [.int .i64 (rd x5_2 0)] from rfl) (Reps.none _ _))); intro v135 w33 ho34 hb hg_ hnew_; clear hg_ hnew_; (first | rw [← Ny134.out] at ho34 | (simp only [Int.reduceToNat] at ho34; rw [← Ny134.out] at ho34)); have HO136 := Aside0.mk (Kd.R_lower (Kd.R_new' ho34 (Kd.R_lt (zR HO_5))) (below_size zB)); replace HO_5 := Aside0.mk (Kd.R_elder' (zR HO_5) (Kd.R_base ho34) hb); replace HB := zBb hb; clear hb ho34))
             go_loopg [9, 10] kj23 (fun kq v9 v10 w' => ∃ (x9_4 : List Int) (x10_4 : Int), v10 = .int .i64 x10_4 ∧ Aside0 (spec_piIs.l2 kq ((rdOf ByteArray.empty t123 0).size : Int) x5_2 x9_4 x10_4 = some r) ∧ Aside0 (kq ≤ kj23) ∧ Aside0 (Kd.R (Kd.int .i64) 3 w' w.heap.size (fun k_ => some k_ ≠ (v9 : Value).ownBlock) (.slice (some ad133) x5_2.length co32) x5_2) ∧ Aside0 (Kd.R (Kd.int .i64) 3 w' w.heap.size (fun k_ => some k_ ≠ ((.slice (some ad133) x5_2.length co32) : Value).ownBlock) v9 x9_4) ∧ Aside0 (Below w.heap.size w w'))
             case atStart => exact ⟨(y134), (0), zA, H', ⟨Nat.le_refl _⟩, ⟨by (with_reducible repeat (first | apply Kd.R_alloc | apply Kd.R_drewN | apply Kd.R_drew)); exact Kd.R_mono HO_5.out (fun _ hk => hk.2)⟩, ⟨by (with_reducible repeat (first | apply Kd.R_alloc | apply Kd.R_drewN | apply Kd.R_drew)); exact Kd.R_mono HO136.out (fun _ hk => hk.2)⟩, ⟨zB⟩⟩
             case round =>
              clear H'
              (try clear c1); (try clear p1); (try clear q1); (try clear hx1); (try clear qi1); (try clear c2); (try clear p2); (try clear c3); (try clear c3b0); (try clear c3b1); (try clear c4); (try clear c6); (try clear c6b0); (try clear c6b1); (try clear p6); (try clear c7); (try clear c7b0); (try clear c7b1); (try clear c12); (try clear c12b0); (try clear p12); (try clear q12); (try clear hx12); (try clear qi12); (try clear c13); (try clear c13b0); (try clear p13); (try clear q13); (try clear hx13); (try clear qi13); (try clear c14); (try clear c14b0); (try clear c15); (try clear c15b0); (try clear c15b1); (try clear c15b2); (try clear c16); (try clear c16b0); (try clear c17); (try clear c17b0); (try clear c18); (try clear c18b0); (try clear p19); (try clear q19); (try clear hx19); (try clear c20); (try clear c20b0); (try clear c20b1); (try clear c21); (try clear c23); (try clear c23b0); (try clear c23b1); (try clear c26); (try clear c30); (try clear c31); (try clear c31b0); (try clear c31b1); (try clear c34); (try clear hx126_0); (try clear hx127_0); (try clear hx133_0); (try clear p1); (try clear p12); (try clear p126); (try clear p127); (try clear p133); (try clear p19); (try clear p2); (try clear p6); (try clear q1); (try clear q12); (try clear q126); (try clear q127); (try clear q133); (try clear q19)
              obtain ⟨x9_4, x10_4, rfl, HA, HK4, HO_5, HO_9, HB⟩ := hrel
              cases gk with
              | zero => exact absurd HA.out (by simp [spec_piIs.l2])
              | succ k4 =>
               have H := HA.out
               clear HA
               simp only [spec_piIs.l2] at H
               by_cases c35 : x10_4 < (x9_4.length : Int)
               ·rw [if_pos c35] at H
                have c35b0 : decide (x10_4 < (x9_4.length : Int)) = true := decide_eq_true c35
                clear c35
                have H' := Aside0.mk H
                clear H
                obtain ⟨Ao36, co36, eo36⟩ := Kd.R_slice HO_9.out
                subst eo36
                go_wp2
                go_loopg [9, 85] k4 (fun kq v9 v85 w' => ∃ (x9_5 : List Int) (x85_5 : Int), v85 = .int .i64 x85_5 ∧ Aside0 (spec_piIs.l3 kq ((rdOf ByteArray.empty t123 0).size : Int) x5_2 x9_5 x10_4 x5_2 (x5_2.length : Int) x85_5 = some r) ∧ Aside0 (kq ≤ k4) ∧ Aside0 (Kd.R (Kd.int .i64) 3 w' w.heap.size (fun k_ => some k_ ≠ (v9 : Value).ownBlock) (.slice (some ad133) x5_2.length co32) x5_2) ∧ Aside0 (Kd.R (Kd.int .i64) 3 w' w.heap.size (fun k_ => some k_ ≠ ((.slice (some ad133) x5_2.length co32) : Value).ownBlock ∧ some k_ ≠ ((.slice (some ad133) x5_2.length co32) : Value).ownBlock) v9 x9_5) ∧ Aside0 (Kd.R (Kd.int .i64) 3 w' w.heap.size (fun k_ => some k_ ≠ (v9 : Value).ownBlock) (.slice (some ad133) x5_2.length co32) x5_2) ∧ Aside0 (Below w.heap.size w w'))
                case atStart => exact ⟨(x9_4), (0), zA, H', ⟨Nat.le_refl _⟩, ⟨zR HO_5⟩, ⟨by (with_reducible repeat (first | apply Kd.R_alloc | apply Kd.R_drewN | apply Kd.R_drew)); exact Kd.R_mono HO_9.out (fun _ hk => ⟨hk, hk⟩)⟩, ⟨zR HO_5⟩, ⟨zB⟩⟩
                case round =>
                 clear H'
                 (try clear c1); (try clear p1); (try clear q1); (try clear hx1); (try clear qi1); (try clear c2); (try clear p2); (try clear c3); (try clear c3b0); (try clear c3b1); (try clear c4); (try clear c6); (try clear c6b0); (try clear c6b1); (try clear p6); (try clear c7); (try clear c7b0); (try clear c7b1); (try clear c12); (try clear c12b0); (try clear p12); (try clear q12); (try clear hx12); (try clear qi12); (try clear c13); (try clear c13b0); (try clear p13); (try clear q13); (try clear hx13); (try clear qi13); (try clear c14); (try clear c14b0); (try clear c15); (try clear c15b0); (try clear c15b1); (try clear c15b2); (try clear c16); (try clear c16b0); (try clear c17); (try clear c17b0); (try clear c18); (try clear c18b0); (try clear p19); (try clear q19); (try clear hx19); (try clear c20); (try clear c20b0); (try clear c20b1); (try clear c21); (try clear c23); (try clear c23b0); (try clear c23b1); (try clear c26); (try clear c30); (try clear c31); (try clear c31b0); (try clear c31b1); (try clear c34); (try clear c35); (try clear c35b0); (try clear hx126_0); (try clear hx127_0); (try clear hx133_0); (try clear p1); (try clear p12); (try clear p126); (try clear p127); (try clear p13); (try clear p133); (try clear p19); (try clear p2); (try clear p6); (try clear q1); (try clear q12); (try clear q126); (try clear q127); (try clear q13); (try clear q133); (try clear q19)
                 obtain ⟨x9_5, x85_5, rfl, HA, HK5, HO_5, HO_9, HO_83, HB⟩ := hrel
                 cases gk with
                 | zero => exact absurd HA.out (by simp [spec_piIs.l3])
                 | succ k5 =>
                  have H := HA.out
                  clear HA
                  simp only [spec_piIs.l3] at H
                  by_cases c37 : x85_5 < (x5_2.length : Int)
                  ·rw [if_pos c37] at H
                   have c37b0 : decide (x85_5 < (x5_2.length : Int)) = true := decide_eq_true c37
                   clear c37
                   by_cases c38 : 0 ≤ x85_5
                   ·rw [if_pos c38] at H
                    have c38b0 : decide (0 ≤ x85_5) = true := decide_eq_true c38
                    clear c38
                    by_cases c39 : x85_5 < (x5_2.length : Int)
                    ·rw [if_pos c39] at H
                     have c39b0 : decide (x85_5 < (x5_2.length : Int)) = true := decide_eq_true c39
                     clear c39
                     by_cases c40 : 0 ≤ x10_4
                     ·rw [if_pos c40] at H
                      have c40b0 : decide (0 ≤ x10_4) = true := decide_eq_true c40
                      clear c40
                      by_cases c41 : x10_4 < (x9_5.length : Int)
                      ·rw [if_pos c41] at H
                       have c41b0 : decide (x10_4 < (x9_5.length : Int)) = true := decide_eq_true c41
                       clear c41
                       by_cases c42 : (wrap64 ((rd x5_2 x85_5) - (rd x9_5 x10_4))) = ((rdOf ByteArray.empty t123 0).size : Int)
                       ·rw [if_pos c42] at H
                        have c42b0 : ((wrap64 ((rd x5_2 x85_5) - (rd x9_5 x10_4))) == ((rdOf ByteArray.empty t123 0).size : Int)) = true := beq_iff_eq.mpr c42
                        have c42b1 : ((wrap64 ((rd x5_2 x85_5) - (rd x9_5 x10_4))) != ((rdOf ByteArray.empty t123 0).size : Int)) = false := bne_eq_false_iff_eq.mpr c42
                        clear c42
                        replace H := Option.bind_eq_some_iff.mp H
                        obtain ⟨t139, A430, H⟩ := H
                        replace H : (if t139 = true then (spec_piIs.l3 k5 ((rdOf ByteArray.empty t123 0).size : Int) x5_2 x9_5 x10_4 x5_2 (x5_2.length : Int) (wrap64 (x85_5 + 1))) else (if x9_5.length < 17592186044416 then (spec_piIs.l3 k5 ((rdOf ByteArray.empty t123 0).size : Int) x5_2 (x9_5 ++ [rd x5_2 x85_5]) x10_4 x5_2 (x5_2.length : Int) (wrap64 (x85_5 + 1))) else (none))) = some r := H
                        have A43 := Aside0.mk A430
                        clear A430
                        by_cases c44 : t139 = true
                        ·subst c44
                         have H1 : (spec_piIs.l3 k5 ((rdOf ByteArray.empty t123 0).size : Int) x5_2 x9_5 x10_4 x5_2 (x5_2.length : Int) (wrap64 (x85_5 + 1))) = some r := by rw [if_pos rfl] at H; exact H
                         clear H
                         have H := H1
                         clear H1
                         have H' := Aside0.mk H
                         clear H
                         have p137 : 0 ≤ (x85_5 : Int) := of_decide_eq_true (by assumption)
                         have q137 : x85_5 < (x5_2.length : Int) := of_decide_eq_true (by assumption)
                         obtain ⟨ad137, e137, hx137_0⟩ := Kd.at_int (Kd.R_reads' HO_83.out).2.2 x85_5 p137 q137
                         obtain rfl : ad133 = ad137 := (by injection e137)
                         replace p137 := eq_true p137
                         replace q137 := eq_true q137
                         obtain ⟨Ao45, co45, eo45⟩ := Kd.R_slice HO_9.out
                         subst eo45
                         have p138 : 0 ≤ (x10_4 : Int) := of_decide_eq_true (by assumption)
                         have q138 : x10_4 < (x9_5.length : Int) := of_decide_eq_true (by assumption)
                         obtain ⟨ad138, e138, hx138_0⟩ := Kd.at_int (Kd.R_reads' HO_9.out).2.2 x10_4 p138 q138
                         cases e138
                         replace p138 := eq_true p138
                         replace q138 := eq_true q138
                         go_wp2_with (first | (go_at_call 36; (with_reducible refine (spec_l1Has.calls k5 _ _ x9_5 (rd x5_2 x85_5) true _ ?side1 ?side2 A43.out).mono ?_); (case side1 => exact zKr (Kd.R_reads' HO_9.out).2.2); (case side2 => exact (Kd.R_reads' HO_9.out).2.1); rintro e w' ⟨rfl, ⟨nd, rfl⟩⟩))
                         go_roundg k5
                         case measure => have := HJ1.out; have := HK2.out; have := HJ23.out; have := HK4.out; have := HK5.out; omega
                         case rel => exact ⟨(x9_5), (wrap64 (x85_5 + 1)), zA, H', ⟨by have := HJ1.out; have := HK2.out; have := HJ23.out; have := HK4.out; have := HK5.out; omega⟩, ⟨zR HO_5⟩, ⟨zR HO_9⟩, ⟨zR HO_83⟩, ⟨zB⟩⟩
                        ·replace c44 := Bool.eq_false_iff.mpr c44
                         subst c44
                         have H1 : (if x9_5.length < 17592186044416 then (spec_piIs.l3 k5 ((rdOf ByteArray.empty t123 0).size : Int) x5_2 (x9_5 ++ [rd x5_2 x85_5]) x10_4 x5_2 (x5_2.length : Int) (wrap64 (x85_5 + 1))) else (none)) = some r := by rw [if_neg (show ¬ (false = true) by decide)] at H; exact H
                         clear H
                         have H := H1
                         clear H1
                         by_cases c46 : x9_5.length < 17592186044416
                         ·rw [if_pos c46] at H
                          have LMc46 := Aside0.mk c46
                          clear c46
                          obtain ⟨y140, hy140⟩ : ∃ y_ : List Int, y_ = (x9_5 ++ [rd x5_2 x85_5]) := ⟨_, rfl⟩
                          replace H : (spec_piIs.l3 k5 ((rdOf ByteArray.empty t123 0).size : Int) x5_2 y140 x10_4 x5_2 (x5_2.length : Int) (wrap64 (x85_5 + 1))) = some r := by first | (rw [hy140]; with_reducible exact H) | (have H2_ := (Option.bind_some _ _).symm.trans H; rw [hy140]; with_reducible exact H2_) | (have H2_ := (Option.bind_some _ _).symm.trans H; with_reducible exact H2_) | with_reducible exact H | (rw [hy140]; exact H) | exact H
                          have Ny140 := Aside0.mk hy140
                          clear hy140
                          have H' := Aside0.mk H
                          clear H
                          have p137 : 0 ≤ (x85_5 : Int) := of_decide_eq_true (by assumption)
                          have q137 : x85_5 < (x5_2.length : Int) := of_decide_eq_true (by assumption)
                          obtain ⟨ad137, e137, hx137_0⟩ := Kd.at_int (Kd.R_reads' HO_83.out).2.2 x85_5 p137 q137
                          obtain rfl : ad133 = ad137 := (by injection e137)
                          replace p137 := eq_true p137
                          replace q137 := eq_true q137
                          obtain ⟨Ao47, co47, eo47⟩ := Kd.R_slice HO_9.out
                          subst eo47
                          have p138 : 0 ≤ (x10_4 : Int) := of_decide_eq_true (by assumption)
                          have q138 : x10_4 < (x9_5.length : Int) := of_decide_eq_true (by assumption)
                          obtain ⟨ad138, e138, hx138_0⟩ := Kd.at_int (Kd.R_reads' HO_9.out).2.2 x10_4 p138 q138
                          cases e138
                          replace p138 := eq_true p138
                          replace q138 := eq_true q138
                          go_wp2_with (first | (go_at_call 36; (with_reducible refine (spec_l1Has.calls k5 _ _ x9_5 (rd x5_2 x85_5) false _ ?side1 ?side2 A43.out).mono ?_); (case side1 => exact zKr (Kd.R_reads' HO_9.out).2.2); (case side2 => exact (Kd.R_reads' HO_9.out).2.1); rintro e w' ⟨rfl, ⟨nd, rfl⟩⟩) | ((with_reducible refine gate_builtin (b := .append) (xs := #[.tmp 134, .tmp 136]) rfl ?_); at_builtin; refine Kd.R_append (Kd.int .i64) (w0 := w) w.heap.size rfl (.tmp 134) (.tmp 136) 25 3 (.int .i64 0) 8 rfl Tryd.underlying25 info3 rfl (by decide) (by omega) (.slice (some ad138) x9_5.length co47) x9_5 (rd x5_2 x85_5) [.int .i64 (rd x5_2 x85_5)] (fun k_ => some k_ ≠ (.slice (some ad133) x5_2.length co32 : Value).ownBlock ∧ some k_ ≠ (.slice (some ad133) x5_2.length co32 : Value).ownBlock) (fun _ => False) rfl rfl ?aP (fun _ hk => hk.elim) ?aF ?aO ?aB ?aS ?aL ?_; (case aP => exact rfl); (case aB => exact zB); (case aF => exact (fun k_ hk => ⟨Kd.fresh' (Kd.R_lt (zR HO_5)) k_ hk, Kd.fresh' (Kd.R_lt (zR HO_83)) k_ hk⟩)); (case aO => exact (zR HO_9)); (case aS => exact (below_size zB)); (case aL => have := LMc46.out; omega); intro v141 w48 ho hb hg hat; rw [← Ny140.out] at ho; have n0_ := Aside0.mk (Kd.R_after (ok := (fun _ => True)) (by (with_reducible repeat (first | apply Kd.R_alloc | apply Kd.R_drewN | apply Kd.R_drew)); exact Kd.R_mono HO_5.out (fun _ hk => ⟨trivial, hk⟩)) hg hat); have n1_ := Aside0.mk (Kd.R_after (ok := (fun _ => True)) (by (with_reducible repeat (first | apply Kd.R_alloc | apply Kd.R_drewN | apply Kd.R_drew)); exact Kd.R_mono HO_83.out (fun _ hk => ⟨trivial, hk⟩)) hg hat); have n2_ := Aside0.mk (hb); have n3_ := Aside0.mk (ho); clear HO_5; clear HO_83; clear HB; clear HO_9; have HO_5 := n0_; have HO_83 := n1_; have HB := n2_; have HO142 := n3_; clear n0_ n1_ n2_ n3_; clear ho hb hg hat))
                          go_roundg k5
                          case measure => have := HJ1.out; have := HK2.out; have := HJ23.out; have := HK4.out; have := HK5.out; omega
                          case rel => exact ⟨(y140), (wrap64 (x85_5 + 1)), zA, H', ⟨by have := HJ1.out; have := HK2.out; have := HJ23.out; have := HK4.out; have := HK5.out; omega⟩, ⟨by (with_reducible repeat (first | apply Kd.R_alloc | apply Kd.R_drewN | apply Kd.R_drew)); exact Kd.R_mono HO_5.out (fun _ hk => hk.2)⟩, ⟨zR HO142⟩, ⟨by (with_reducible repeat (first | apply Kd.R_alloc | apply Kd.R_drewN | apply Kd.R_drew)); exact Kd.R_mono HO_83.out (fun _ hk => hk.2)⟩, ⟨zB⟩⟩
                         ·rw [if_neg c46] at H
                          exact absurd H (by simp)
                       ·rw [if_neg c42] at H
                        have c42b0 : ((wrap64 ((rd x5_2 x85_5) - (rd x9_5 x10_4))) == ((rdOf ByteArray.empty t123 0).size : Int)) = false := beq_eq_false_iff_ne.mpr c42
                        have c42b1 : ((wrap64 ((rd x5_2 x85_5) - (rd x9_5 x10_4))) != ((rdOf ByteArray.empty t123 0).size : Int)) = true := bne_iff_ne.mpr c42
                        by_cases c49 : (wrap64 ((rd x5_2 x85_5) - (rd x9_5 x10_4))) = (wrap64 (-((rdOf ByteArray.empty t123 0).size : Int)))
                        ·rw [if_pos c49] at H
                         have c49b0 : ((wrap64 ((rd x5_2 x85_5) - (rd x9_5 x10_4))) == (wrap64 (-((rdOf ByteArray.empty t123 0).size : Int)))) = true := beq_iff_eq.mpr c49
                         have c49b1 : ((wrap64 ((rd x5_2 x85_5) - (rd x9_5 x10_4))) != (wrap64 (-((rdOf ByteArray.empty t123 0).size : Int)))) = false := bne_eq_false_iff_eq.mpr c49
                         clear c49
                         replace H := Option.bind_eq_some_iff.mp H
                         obtain ⟨t143, A500, H⟩ := H
                         replace H : (if t143 = true then (spec_piIs.l3 k5 ((rdOf ByteArray.empty t123 0).size : Int) x5_2 x9_5 x10_4 x5_2 (x5_2.length : Int) (wrap64 (x85_5 + 1))) else (if x9_5.length < 17592186044416 then (spec_piIs.l3 k5 ((rdOf ByteArray.empty t123 0).size : Int) x5_2 (x9_5 ++ [rd x5_2 x85_5]) x10_4 x5_2 (x5_2.length : Int) (wrap64 (x85_5 + 1))) else (none))) = some r := H
                         have A50 := Aside0.mk A500
                         clear A500
                         by_cases c51 : t143 = true
                         ·subst c51
                          have H1 : (spec_piIs.l3 k5 ((rdOf ByteArray.empty t123 0).size : Int) x5_2 x9_5 x10_4 x5_2 (x5_2.length : Int) (wrap64 (x85_5 + 1))) = some r := by rw [if_pos rfl] at H; exact H
                          clear H
                          have H := H1
                          clear H1
                          have H' := Aside0.mk H
                          clear H
                          have p137 : 0 ≤ (x85_5 : Int) := of_decide_eq_true (by assumption)
                          have q137 : x85_5 < (x5_2.length : Int) := of_decide_eq_true (by assumption)
                          obtain ⟨ad137, e137, hx137_0⟩ := Kd.at_int (Kd.R_reads' HO_83.out).2.2 x85_5 p137 q137
                          obtain rfl : ad133 = ad137 := (by injection e137)
                          replace p137 := eq_true p137
                          replace q137 := eq_true q137
                          obtain ⟨Ao52, co52, eo52⟩ := Kd.R_slice HO_9.out
                          subst eo52
                          have p138 : 0 ≤ (x10_4 : Int) := of_decide_eq_true (by assumption)
                          have q138 : x10_4 < (x9_5.length : Int) := of_decide_eq_true (by assumption)
                          obtain ⟨ad138, e138, hx138_0⟩ := Kd.at_int (Kd.R_reads' HO_9.out).2.2 x10_4 p138 q138
                          cases e138
                          replace p138 := eq_true p138
                          replace q138 := eq_true q138
                          go_wp2_with (first | (go_at_call 36; (with_reducible refine (spec_l1Has.calls k5 _ _ x9_5 (rd x5_2 x85_5) true _ ?side1 ?side2 A50.out).mono ?_); (case side1 => exact zKr (Kd.R_reads' HO_9.out).2.2); (case side2 => exact (Kd.R_reads' HO_9.out).2.1); rintro e w' ⟨rfl, ⟨nd, rfl⟩⟩))
                          go_roundg k5
                          case measure => have := HJ1.out; have := HK2.out; have := HJ23.out; have := HK4.out; have := HK5.out; omega
                          case rel => exact ⟨(x9_5), (wrap64 (x85_5 + 1)), zA, H', ⟨by have := HJ1.out; have := HK2.out; have := HJ23.out; have := HK4.out; have := HK5.out; omega⟩, ⟨zR HO_5⟩, ⟨zR HO_9⟩, ⟨zR HO_83⟩, ⟨zB⟩⟩
                         ·replace c51 := Bool.eq_false_iff.mpr c51
                          subst c51
                          have H1 : (if x9_5.length < 17592186044416 then (spec_piIs.l3 k5 ((rdOf ByteArray.empty t123 0).size : Int) x5_2 (x9_5 ++ [rd x5_2 x85_5]) x10_4 x5_2 (x5_2.length : Int) (wrap64 (x85_5 + 1))) else (none)) = some r := by rw [if_neg (show ¬ (false = true) by decide)] at H; exact H
                          clear H
                          have H := H1
                          clear H1
                          by_cases c53 : x9_5.length < 17592186044416
                          ·rw [if_pos c53] at H
                           have LMc53 := Aside0.mk c53
                           clear c53
                           obtain ⟨y144, hy144⟩ : ∃ y_ : List Int, y_ = (x9_5 ++ [rd x5_2 x85_5]) := ⟨_, rfl⟩
                           replace H : (spec_piIs.l3 k5 ((rdOf ByteArray.empty t123 0).size : Int) x5_2 y144 x10_4 x5_2 (x5_2.length : Int) (wrap64 (x85_5 + 1))) = some r := by first | (rw [hy144]; with_reducible exact H) | (have H2_ := (Option.bind_some _ _).symm.trans H; rw [hy144]; with_reducible exact H2_) | (have H2_ := (Option.bind_some _ _).symm.trans H; with_reducible exact H2_) | with_reducible exact H | (rw [hy144]; exact H) | exact H
                           have Ny144 := Aside0.mk hy144
                           clear hy144
                           have H' := Aside0.mk H
                           clear H
                           have p137 : 0 ≤ (x85_5 : Int) := of_decide_eq_true (by assumption)
                           have q137 : x85_5 < (x5_2.length : Int) := of_decide_eq_true (by assumption)
                           obtain ⟨ad137, e137, hx137_0⟩ := Kd.at_int (Kd.R_reads' HO_83.out).2.2 x85_5 p137 q137
                           obtain rfl : ad133 = ad137 := (by injection e137)
                           replace p137 := eq_true p137
                           replace q137 := eq_true q137
                           obtain ⟨Ao54, co54, eo54⟩ := Kd.R_slice HO_9.out
                           subst eo54
                           have p138 : 0 ≤ (x10_4 : Int) := of_decide_eq_true (by assumption)
                           have q138 : x10_4 < (x9_5.length : Int) := of_decide_eq_true (by assumption)
                           obtain ⟨ad138, e138, hx138_0⟩ := Kd.at_int (Kd.R_reads' HO_9.out).2.2 x10_4 p138 q138
                           cases e138
                           replace p138 := eq_true p138
                           replace q138 := eq_true q138
                           go_wp2_with (first | (go_at_call 36; (with_reducible refine (spec_l1Has.calls k5 _ _ x9_5 (rd x5_2 x85_5) false _ ?side1 ?side2 A50.out).mono ?_); (case side1 => exact zKr (Kd.R_reads' HO_9.out).2.2); (case side2 => exact (Kd.R_reads' HO_9.out).2.1); rintro e w' ⟨rfl, ⟨nd, rfl⟩⟩) | ((with_reducible refine gate_builtin (b := .append) (xs := #[.tmp 134, .tmp 136]) rfl ?_); at_builtin; refine Kd.R_append (Kd.int .i64) (w0 := w) w.heap.size rfl (.tmp 134) (.tmp 136) 25 3 (.int .i64 0) 8 rfl Tryd.underlying25 info3 rfl (by decide) (by omega) (.slice (some ad138) x9_5.length co54) x9_5 (rd x5_2 x85_5) [.int .i64 (rd x5_2 x85_5)] (fun k_ => some k_ ≠ (.slice (some ad133) x5_2.length co32 : Value).ownBlock ∧ some k_ ≠ (.slice (some ad133) x5_2.length co32 : Value).ownBlock) (fun _ => False) rfl rfl ?aP (fun _ hk => hk.elim) ?aF ?aO ?aB ?aS ?aL ?_; (case aP => exact rfl); (case aB => exact zB); (case aF => exact (fun k_ hk => ⟨Kd.fresh' (Kd.R_lt (zR HO_5)) k_ hk, Kd.fresh' (Kd.R_lt (zR HO_83)) k_ hk⟩)); (case aO => exact (zR HO_9)); (case aS => exact (below_size zB)); (case aL => have := LMc53.out; omega); intro v145 w55 ho hb hg hat; rw [← Ny144.out] at ho; have n0_ := Aside0.mk (Kd.R_after (ok := (fun _ => True)) (by (with_reducible repeat (first | apply Kd.R_alloc | apply Kd.R_drewN | apply Kd.R_drew)); exact Kd.R_mono HO_5.out (fun _ hk => ⟨trivial, hk⟩)) hg hat); have n1_ := Aside0.mk (Kd.R_after (ok := (fun _ => True)) (by (with_reducible repeat (first | apply Kd.R_alloc | apply Kd.R_drewN | apply Kd.R_drew)); exact Kd.R_mono HO_83.out (fun _ hk => ⟨trivial, hk⟩)) hg hat); have n2_ := Aside0.mk (hb); have n3_ := Aside0.mk (ho); clear HO_5; clear HO_83; clear HB; clear HO_9; have HO_5 := n0_; have HO_83 := n1_; have HB := n2_; have HO146 := n3_; clear n0_ n1_ n2_ n3_; clear ho hb hg hat))
                           go_roundg k5
                           case measure => have := HJ1.out; have := HK2.out; have := HJ23.out; have := HK4.out; have := HK5.out; omega
                           case rel => exact ⟨(y144), (wrap64 (x85_5 + 1)), zA, H', ⟨by have := HJ1.out; have := HK2.out; have := HJ23.out; have := HK4.out; have := HK5.out; omega⟩, ⟨by (with_reducible repeat (first | apply Kd.R_alloc | apply Kd.R_drewN | apply Kd.R_drew)); exact Kd.R_mono HO_5.out (fun _ hk => hk.2)⟩, ⟨zR HO146⟩, ⟨by (with_reducible repeat (first | apply Kd.R_alloc | apply Kd.R_drewN | apply Kd.R_drew)); exact Kd.R_mono HO_83.out (fun _ hk => hk.2)⟩, ⟨zB⟩⟩
                          ·rw [if_neg c53] at H
                           exact absurd H (by simp)
                        ·rw [if_neg c49] at H
                         have c49b0 : ((wrap64 ((rd x5_2 x85_5) - (rd x9_5 x10_4))) == (wrap64 (-((rdOf ByteArray.empty t123 0).size : Int)))) = false := beq_eq_false_iff_ne.mpr c49
                         have c49b1 : ((wrap64 ((rd x5_2 x85_5) - (rd x9_5 x10_4))) != (wrap64 (-((rdOf ByteArray.empty t123 0).size : Int)))) = true := bne_iff_ne.mpr c49
                         by_cases c56 : (wrap64 ((rd x5_2 x85_5) - (rd x9_5 x10_4))) = 1
                         ·rw [if_pos c56] at H
                          have c56b0 : ((wrap64 ((rd x5_2 x85_5) - (rd x9_5 x10_4))) == 1) = true := beq_iff_eq.mpr c56
                          have c56b1 : ((wrap64 ((rd x5_2 x85_5) - (rd x9_5 x10_4))) != 1) = false := bne_eq_false_iff_eq.mpr c56
                          clear c56
                          by_cases c57 : ((rdOf ByteArray.empty t123 0).size : Int) = 0
                          ·rw [if_pos c57] at H
                           exact absurd H (by simp)
                          ·rw [if_neg c57] at H
                           have c57b0 : (((rdOf ByteArray.empty t123 0).size : Int) == 0) = false := beq_eq_false_iff_ne.mpr c57
                           have c57b1 : (((rdOf ByteArray.empty t123 0).size : Int) != 0) = true := bne_iff_ne.mpr c57
                           by_cases c58 : (Int.tmod (rd x5_2 x85_5) ((rdOf ByteArray.empty t123 0).size : Int)) = 0
                           ·rw [if_pos c58] at H
                            have c58b0 : ((Int.tmod (rd x5_2 x85_5) ((rdOf ByteArray.empty t123 0).size : Int)) == 0) = true := beq_iff_eq.mpr c58
                            have c58b1 : ((Int.tmod (rd x5_2 x85_5) ((rdOf ByteArray.empty t123 0).size : Int)) != 0) = false := bne_eq_false_iff_eq.mpr c58
                            clear c58
                            by_cases c59 : (wrap64 ((rd x5_2 x85_5) - (rd x9_5 x10_4))) = (-1)
                            ·rw [if_pos c59] at H
                             have c59b0 : ((wrap64 ((rd x5_2 x85_5) - (rd x9_5 x10_4))) == (-1)) = true := beq_iff_eq.mpr c59
                             have c59b1 : ((wrap64 ((rd x5_2 x85_5) - (rd x9_5 x10_4))) != (-1)) = false := bne_eq_false_iff_eq.mpr c59
                             clear c59
                             by_cases c60 : (Int.tmod (rd x9_5 x10_4) ((rdOf ByteArray.empty t123 0).size : Int)) = 0
                             ·rw [if_pos c60] at H
                              have c60b0 : ((Int.tmod (rd x9_5 x10_4) ((rdOf ByteArray.empty t123 0).size : Int)) == 0) = true := beq_iff_eq.mpr c60
                              have c60b1 : ((Int.tmod (rd x9_5 x10_4) ((rdOf ByteArray.empty t123 0).size : Int)) != 0) = false := bne_eq_false_iff_eq.mpr c60
                              clear c60
                              have H' := Aside0.mk H
                              clear H
                              have p137 : 0 ≤ (x85_5 : Int) := of_decide_eq_true (by assumption)
                              have q137 : x85_5 < (x5_2.length : Int) := of_decide_eq_true (by assumption)
                              obtain ⟨ad137, e137, hx137_0⟩ := Kd.at_int (Kd.R_reads' HO_83.out).2.2 x85_5 p137 q137
                              obtain rfl : ad133 = ad137 := (by injection e137)
                              replace p137 := eq_true p137
                              replace q137 := eq_true q137
                              obtain ⟨Ao61, co61, eo61⟩ := Kd.R_slice HO_9.out
                              subst eo61
                              have p138 : 0 ≤ (x10_4 : Int) := of_decide_eq_true (by assumption)
                              have q138 : x10_4 < (x9_5.length : Int) := of_decide_eq_true (by assumption)
                              obtain ⟨ad138, e138, hx138_0⟩ := Kd.at_int (Kd.R_reads' HO_9.out).2.2 x10_4 p138 q138
                              cases e138
                              replace p138 := eq_true p138
                              replace q138 := eq_true q138
                              have p147 : 0 ≤ (x10_4 : Int) := of_decide_eq_true (by assumption)
                              have q147 : x10_4 < (x9_5.length : Int) := of_decide_eq_true (by assumption)
                              obtain ⟨ad147, e147, hx147_0⟩ := Kd.at_int (Kd.R_reads' HO_9.out).2.2 x10_4 p147 q147
                              obtain rfl : ad138 = ad147 := (by injection e147)
                              replace p147 := eq_true p147
                              replace q147 := eq_true q147
                              go_wp2
                              go_roundg k5
                              case measure => have := HJ1.out; have := HK2.out; have := HJ23.out; have := HK4.out; have := HK5.out; omega
                              case rel => exact ⟨(x9_5), (wrap64 (x85_5 + 1)), zA, H', ⟨by have := HJ1.out; have := HK2.out; have := HJ23.out; have := HK4.out; have := HK5.out; omega⟩, ⟨zR HO_5⟩, ⟨zR HO_9⟩, ⟨zR HO_83⟩, ⟨zB⟩⟩
                             ·rw [if_neg c60] at H
                              have c60b0 : ((Int.tmod (rd x9_5 x10_4) ((rdOf ByteArray.empty t123 0).size : Int)) == 0) = false := beq_eq_false_iff_ne.mpr c60
                              have c60b1 : ((Int.tmod (rd x9_5 x10_4) ((rdOf ByteArray.empty t123 0).size : Int)) != 0) = true := bne_iff_ne.mpr c60
                              replace H := Option.bind_eq_some_iff.mp H
                              obtain ⟨t148, A620, H⟩ := H
                              replace H : (if t148 = true then (spec_piIs.l3 k5 ((rdOf ByteArray.empty t123 0).size : Int) x5_2 x9_5 x10_4 x5_2 (x5_2.length : Int) (wrap64 (x85_5 + 1))) else (if x9_5.length < 17592186044416 then (spec_piIs.l3 k5 ((rdOf ByteArray.empty t123 0).size : Int) x5_2 (x9_5 ++ [rd x5_2 x85_5]) x10_4 x5_2 (x5_2.length : Int) (wrap64 (x85_5 + 1))) else (none))) = some r := H
                              have A62 := Aside0.mk A620
                              clear A620
                              by_cases c63 : t148 = true
                              ·subst c63
                               have H1 : (spec_piIs.l3 k5 ((rdOf ByteArray.empty t123 0).size : Int) x5_2 x9_5 x10_4 x5_2 (x5_2.length : Int) (wrap64 (x85_5 + 1))) = some r := by rw [if_pos rfl] at H; exact H
                               clear H
                               have H := H1
                               clear H1
                               have H' := Aside0.mk H
                               clear H
                               have p137 : 0 ≤ (x85_5 : Int) := of_decide_eq_true (by assumption)
                               have q137 : x85_5 < (x5_2.length : Int) := of_decide_eq_true (by assumption)
                               obtain ⟨ad137, e137, hx137_0⟩ := Kd.at_int (Kd.R_reads' HO_83.out).2.2 x85_5 p137 q137
                               obtain rfl : ad133 = ad137 := (by injection e137)
                               replace p137 := eq_true p137
                               replace q137 := eq_true q137
                               obtain ⟨Ao64, co64, eo64⟩ := Kd.R_slice HO_9.out
                               subst eo64
                               have p138 : 0 ≤ (x10_4 : Int) := of_decide_eq_true (by assumption)
                               have q138 : x10_4 < (x9_5.length : Int) := of_decide_eq_true (by assumption)
                               obtain ⟨ad138, e138, hx138_0⟩ := Kd.at_int (Kd.R_reads' HO_9.out).2.2 x10_4 p138 q138
                               cases e138
                               replace p138 := eq_true p138
                               replace q138 := eq_true q138
                               have p147 : 0 ≤ (x10_4 : Int) := of_decide_eq_true (by assumption)
                               have q147 : x10_4 < (x9_5.length : Int) := of_decide_eq_true (by assumption)
                               obtain ⟨ad147, e147, hx147_0⟩ := Kd.at_int (Kd.R_reads' HO_9.out).2.2 x10_4 p147 q147
                               obtain rfl : ad138 = ad147 := (by injection e147)
                               replace p147 := eq_true p147
                               replace q147 := eq_true q147
                               go_wp2_with (first | (go_at_call 36; (with_reducible refine (spec_l1Has.calls k5 _ _ x9_5 (rd x5_2 x85_5) true _ ?side1 ?side2 A62.out).mono ?_); (case side1 => exact zKr (Kd.R_reads' HO_9.out).2.2); (case side2 => exact (Kd.R_reads' HO_9.out).2.1); rintro e w' ⟨rfl, ⟨nd, rfl⟩⟩))
                               go_roundg k5
                               case measure => have := HJ1.out; have := HK2.out; have := HJ23.out; have := HK4.out; have := HK5.out; omega
                               case rel => exact ⟨(x9_5), (wrap64 (x85_5 + 1)), zA, H', ⟨by have := HJ1.out; have := HK2.out; have := HJ23.out; have := HK4.out; have := HK5.out; omega⟩, ⟨zR HO_5⟩, ⟨zR HO_9⟩, ⟨zR HO_83⟩, ⟨zB⟩⟩
                              ·replace c63 := Bool.eq_false_iff.mpr c63
                               subst c63
                               have H1 : (if x9_5.length < 17592186044416 then (spec_piIs.l3 k5 ((rdOf ByteArray.empty t123 0).size : Int) x5_2 (x9_5 ++ [rd x5_2 x85_5]) x10_4 x5_2 (x5_2.length : Int) (wrap64 (x85_5 + 1))) else (none)) = some r := by rw [if_neg (show ¬ (false = true) by decide)] at H; exact H
                               clear H
                               have H := H1
                               clear H1
                               by_cases c65 : x9_5.length < 17592186044416
                               ·rw [if_pos c65] at H
                                have LMc65 := Aside0.mk c65
                                clear c65
                                obtain ⟨y149, hy149⟩ : ∃ y_ : List Int, y_ = (x9_5 ++ [rd x5_2 x85_5]) := ⟨_, rfl⟩
                                replace H : (spec_piIs.l3 k5 ((rdOf ByteArray.empty t123 0).size : Int) x5_2 y149 x10_4 x5_2 (x5_2.length : Int) (wrap64 (x85_5 + 1))) = some r := by first | (rw [hy149]; with_reducible exact H) | (have H2_ := (Option.bind_some _ _).symm.trans H; rw [hy149]; with_reducible exact H2_) | (have H2_ := (Option.bind_some _ _).symm.trans H; with_reducible exact H2_) | with_reducible exact H | (rw [hy149]; exact H) | exact H
                                have Ny149 := Aside0.mk hy149
                                clear hy149
                                have H' := Aside0.mk H
                                clear H
                                have p137 : 0 ≤ (x85_5 : Int) := of_decide_eq_true (by assumption)
                                have q137 : x85_5 < (x5_2.length : Int) := of_decide_eq_true (by assumption)
                                obtain ⟨ad137, e137, hx137_0⟩ := Kd.at_int (Kd.R_reads' HO_83.out).2.2 x85_5 p137 q137
                                obtain rfl : ad133 = ad137 := (by injection e137)
                                replace p137 := eq_true p137
                                replace q137 := eq_true q137
                                obtain ⟨Ao66, co66, eo66⟩ := Kd.R_slice HO_9.out
                                subst eo66
                                have p138 : 0 ≤ (x10_4 : Int) := of_decide_eq_true (by assumption)
                                have q138 : x10_4 < (x9_5.length : Int) := of_decide_eq_true (by assumption)
                                obtain ⟨ad138, e138, hx138_0⟩ := Kd.at_int (Kd.R_reads' HO_9.out).2.2 x10_4 p138 q138
                                cases e138
                                replace p138 := eq_true p138
                                replace q138 := eq_true q138
                                have p147 : 0 ≤ (x10_4 : Int) := of_decide_eq_true (by assumption)
                                have q147 : x10_4 < (x9_5.length : Int) := of_decide_eq_true (by assumption)
                                obtain ⟨ad147, e147, hx147_0⟩ := Kd.at_int (Kd.R_reads' HO_9.out).2.2 x10_4 p147 q147
                                obtain rfl : ad138 = ad147 := (by injection e147)
                                replace p147 := eq_true p147
                                replace q147 := eq_true q147
                                go_wp2_with (first | (go_at_call 36; (with_reducible refine (spec_l1Has.calls k5 _ _ x9_5 (rd x5_2 x85_5) false _ ?side1 ?side2 A62.out).mono ?_); (case side1 => exact zKr (Kd.R_reads' HO_9.out).2.2); (case side2 => exact (Kd.R_reads' HO_9.out).2.1); rintro e w' ⟨rfl, ⟨nd, rfl⟩⟩) | ((with_reducible refine gate_builtin (b := .append) (xs := #[.tmp 134, .tmp 136]) rfl ?_); at_builtin; refine Kd.R_append (Kd.int .i64) (w0 := w) w.heap.size rfl (.tmp 134) (.tmp 136) 25 3 (.int .i64 0) 8 rfl Tryd.underlying25 info3 rfl (by decide) (by omega) (.slice (some ad138) x9_5.length co66) x9_5 (rd x5_2 x85_5) [.int .i64 (rd x5_2 x85_5)] (fun k_ => some k_ ≠ (.slice (some ad133) x5_2.length co32 : Value).ownBlock ∧ some k_ ≠ (.slice (some ad133) x5_2.length co32 : Value).ownBlock) (fun _ => False) rfl rfl ?aP (fun _ hk => hk.elim) ?aF ?aO ?aB ?aS ?aL ?_; (case aP => exact rfl); (case aB => exact zB); (case aF => exact (fun k_ hk => ⟨Kd.fresh' (Kd.R_lt (zR HO_5)) k_ hk, Kd.fresh' (Kd.R_lt (zR HO_83)) k_ hk⟩)); (case aO => exact (zR HO_9)); (case aS => exact (below_size zB)); (case aL => have := LMc65.out; omega); intro v150 w67 ho hb hg hat; rw [← Ny149.out] at ho; have n0_ := Aside0.mk (Kd.R_after (ok := (fun _ => True)) (by (with_reducible repeat (first | apply Kd.R_alloc | apply Kd.R_drewN | apply Kd.R_drew)); exact Kd.R_mono HO_5.out (fun _ hk => ⟨trivial, hk⟩)) hg hat); have n1_ := Aside0.mk (Kd.R_after (ok := (fun _ => True)) (by (with_reducible repeat (first | apply Kd.R_alloc | apply Kd.R_drewN | apply Kd.R_drew)); exact Kd.R_mono HO_83.out (fun _ hk => ⟨trivial, hk⟩)) hg hat); have n2_ := Aside0.mk (hb); have n3_ := Aside0.mk (ho); clear HO_5; clear HO_83; clear HB; clear HO_9; have HO_5 := n0_; have HO_83 := n1_; have HB := n2_; have HO151 := n3_; clear n0_ n1_ n2_ n3_; clear ho hb hg hat))
                                go_roundg k5
                                case measure => have := HJ1.out; have := HK2.out; have := HJ23.out; have := HK4.out; have := HK5.out; omega
                                case rel => exact ⟨(y149), (wrap64 (x85_5 + 1)), zA, H', ⟨by have := HJ1.out; have := HK2.out; have := HJ23.out; have := HK4.out; have := HK5.out; omega⟩, ⟨by (with_reducible repeat (first | apply Kd.R_alloc | apply Kd.R_drewN | apply Kd.R_drew)); exact Kd.R_mono HO_5.out (fun _ hk => hk.2)⟩, ⟨zR HO151⟩, ⟨by (with_reducible repeat (first | apply Kd.R_alloc | apply Kd.R_drewN | apply Kd.R_drew)); exact Kd.R_mono HO_83.out (fun _ hk => hk.2)⟩, ⟨zB⟩⟩
                               ·rw [if_neg c65] at H
                                exact absurd H (by simp)
                            ·rw [if_neg c59] at H
                             have c59b0 : ((wrap64 ((rd x5_2 x85_5) - (rd x9_5 x10_4))) == (-1)) = false := beq_eq_false_iff_ne.mpr c59
                             have c59b1 : ((wrap64 ((rd x5_2 x85_5) - (rd x9_5 x10_4))) != (-1)) = true := bne_iff_ne.mpr c59
                             have H' := Aside0.mk H
                             clear H
                             have p137 : 0 ≤ (x85_5 : Int) := of_decide_eq_true (by assumption)
                             have q137 : x85_5 < (x5_2.length : Int) := of_decide_eq_true (by assumption)
                             obtain ⟨ad137, e137, hx137_0⟩ := Kd.at_int (Kd.R_reads' HO_83.out).2.2 x85_5 p137 q137
                             obtain rfl : ad133 = ad137 := (by injection e137)
                             replace p137 := eq_true p137
                             replace q137 := eq_true q137
                             obtain ⟨Ao68, co68, eo68⟩ := Kd.R_slice HO_9.out
                             subst eo68
                             have p138 : 0 ≤ (x10_4 : Int) := of_decide_eq_true (by assumption)
                             have q138 : x10_4 < (x9_5.length : Int) := of_decide_eq_true (by assumption)
                             obtain ⟨ad138, e138, hx138_0⟩ := Kd.at_int (Kd.R_reads' HO_9.out).2.2 x10_4 p138 q138
                             cases e138
                             replace p138 := eq_true p138
                             replace q138 := eq_true q138
                             go_wp2
                             go_roundg k5
                             case measure => have := HJ1.out; have := HK2.out; have := HJ23.out; have := HK4.out; have := HK5.out; omega
                             case rel => exact ⟨(x9_5), (wrap64 (x85_5 + 1)), zA, H', ⟨by have := HJ1.out; have := HK2.out; have := HJ23.out; have := HK4.out; have := HK5.out; omega⟩, ⟨zR HO_5⟩, ⟨zR HO_9⟩, ⟨zR HO_83⟩, ⟨zB⟩⟩
                           ·rw [if_neg c58] at H
                            have c58b0 : ((Int.tmod (rd x5_2 x85_5) ((rdOf ByteArray.empty t123 0).size : Int)) == 0) = false := beq_eq_false_iff_ne.mpr c58
                            have c58b1 : ((Int.tmod (rd x5_2 x85_5) ((rdOf ByteArray.empty t123 0).size : Int)) != 0) = true := bne_iff_ne.mpr c58
                            replace H := Option.bind_eq_some_iff.mp H
                            obtain ⟨t152, A690, H⟩ := H
                            replace H : (if t152 = true then (spec_piIs.l3 k5 ((rdOf ByteArray.empty t123 0).size : Int) x5_2 x9_5 x10_4 x5_2 (x5_2.length : Int) (wrap64 (x85_5 + 1))) else (if x9_5.length < 17592186044416 then (spec_piIs.l3 k5 ((rdOf ByteArray.empty t123 0).size : Int) x5_2 (x9_5 ++ [rd x5_2 x85_5]) x10_4 x5_2 (x5_2.length : Int) (wrap64 (x85_5 + 1))) else (none))) = some r := H
                            have A69 := Aside0.mk A690
                            clear A690
                            by_cases c70 : t152 = true
                            ·subst c70
                             have H1 : (spec_piIs.l3 k5 ((rdOf ByteArray.empty t123 0).size : Int) x5_2 x9_5 x10_4 x5_2 (x5_2.length : Int) (wrap64 (x85_5 + 1))) = some r := by rw [if_pos rfl] at H; exact H
                             clear H
                             have H := H1
                             clear H1
                             have H' := Aside0.mk H
                             clear H
                             have p137 : 0 ≤ (x85_5 : Int) := of_decide_eq_true (by assumption)
                             have q137 : x85_5 < (x5_2.length : Int) := of_decide_eq_true (by assumption)
                             obtain ⟨ad137, e137, hx137_0⟩ := Kd.at_int (Kd.R_reads' HO_83.out).2.2 x85_5 p137 q137
                             obtain rfl : ad133 = ad137 := (by injection e137)
                             replace p137 := eq_true p137
                             replace q137 := eq_true q137
                             obtain ⟨Ao71, co71, eo71⟩ := Kd.R_slice HO_9.out
                             subst eo71
                             have p138 : 0 ≤ (x10_4 : Int) := of_decide_eq_true (by assumption)
                             have q138 : x10_4 < (x9_5.length : Int) := of_decide_eq_true (by assumption)
                             obtain ⟨ad138, e138, hx138_0⟩ := Kd.at_int (Kd.R_reads' HO_9.out).2.2 x10_4 p138 q138
                             cases e138
                             replace p138 := eq_true p138
                             replace q138 := eq_true q138
                             go_wp2_with (first | (go_at_call 36; (with_reducible refine (spec_l1Has.calls k5 _ _ x9_5 (rd x5_2 x85_5) true _ ?side1 ?side2 A69.out).mono ?_); (case side1 => exact zKr (Kd.R_reads' HO_9.out).2.2); (case side2 => exact (Kd.R_reads' HO_9.out).2.1); rintro e w' ⟨rfl, ⟨nd, rfl⟩⟩))
                             go_roundg k5
                             case measure => have := HJ1.out; have := HK2.out; have := HJ23.out; have := HK4.out; have := HK5.out; omega
                             case rel => exact ⟨(x9_5), (wrap64 (x85_5 + 1)), zA, H', ⟨by have := HJ1.out; have := HK2.out; have := HJ23.out; have := HK4.out; have := HK5.out; omega⟩, ⟨zR HO_5⟩, ⟨zR HO_9⟩, ⟨zR HO_83⟩, ⟨zB⟩⟩
                            ·replace c70 := Bool.eq_false_iff.mpr c70
                             subst c70
                             have H1 : (if x9_5.length < 17592186044416 then (spec_piIs.l3 k5 ((rdOf ByteArray.empty t123 0).size : Int) x5_2 (x9_5 ++ [rd x5_2 x85_5]) x10_4 x5_2 (x5_2.length : Int) (wrap64 (x85_5 + 1))) else (none)) = some r := by rw [if_neg (show ¬ (false = true) by decide)] at H; exact H
                             clear H
                             have H := H1
                             clear H1
                             by_cases c72 : x9_5.length < 17592186044416
                             ·rw [if_pos c72] at H
                              have LMc72 := Aside0.mk c72
                              clear c72
                              obtain ⟨y153, hy153⟩ : ∃ y_ : List Int, y_ = (x9_5 ++ [rd x5_2 x85_5]) := ⟨_, rfl⟩
                              replace H : (spec_piIs.l3 k5 ((rdOf ByteArray.empty t123 0).size : Int) x5_2 y153 x10_4 x5_2 (x5_2.length : Int) (wrap64 (x85_5 + 1))) = some r := by first | (rw [hy153]; with_reducible exact H) | (have H2_ := (Option.bind_some _ _).symm.trans H; rw [hy153]; with_reducible exact H2_) | (have H2_ := (Option.bind_some _ _).symm.trans H; with_reducible exact H2_) | with_reducible exact H | (rw [hy153]; exact H) | exact H
                              have Ny153 := Aside0.mk hy153
                              clear hy153
                              have H' := Aside0.mk H
                              clear H
                              have p137 : 0 ≤ (x85_5 : Int) := of_decide_eq_true (by assumption)
                              have q137 : x85_5 < (x5_2.length : Int) := of_decide_eq_true (by assumption)
                              obtain ⟨ad137, e137, hx137_0⟩ := Kd.at_int (Kd.R_reads' HO_83.out).2.2 x85_5 p137 q137
                              obtain rfl : ad133 = ad137 := (by injection e137)
                              replace p137 := eq_true p137
                              replace q137 := eq_true q137
                              obtain ⟨Ao73, co73, eo73⟩ := Kd.R_slice HO_9.out
                              subst eo73
                              have p138 : 0 ≤ (x10_4 : Int) := of_decide_eq_true (by assumption)
                              have q138 : x10_4 < (x9_5.length : Int) := of_decide_eq_true (by assumption)
                              obtain ⟨ad138, e138, hx138_0⟩ := Kd.at_int (Kd.R_reads' HO_9.out).2.2 x10_4 p138 q138
                              cases e138
                              replace p138 := eq_true p138
                              replace q138 := eq_true q138
                              go_wp2_with (first | (go_at_call 36; (with_reducible refine (spec_l1Has.calls k5 _ _ x9_5 (rd x5_2 x85_5) false _ ?side1 ?side2 A69.out).mono ?_); (case side1 => exact zKr (Kd.R_reads' HO_9.out).2.2); (case side2 => exact (Kd.R_reads' HO_9.out).2.1); rintro e w' ⟨rfl, ⟨nd, rfl⟩⟩) | ((with_reducible refine gate_builtin (b := .append) (xs := #[.tmp 134, .tmp 136]) rfl ?_); at_builtin; refine Kd.R_append (Kd.int .i64) (w0 := w) w.heap.size rfl (.tmp 134) (.tmp 136) 25 3 (.int .i64 0) 8 rfl Tryd.underlying25 info3 rfl (by decide) (by omega) (.slice (some ad138) x9_5.length co73) x9_5 (rd x5_2 x85_5) [.int .i64 (rd x5_2 x85_5)] (fun k_ => some k_ ≠ (.slice (some ad133) x5_2.length co32 : Value).ownBlock ∧ some k_ ≠ (.slice (some ad133) x5_2.length co32 : Value).ownBlock) (fun _ => False) rfl rfl ?aP (fun _ hk => hk.elim) ?aF ?aO ?aB ?aS ?aL ?_; (case aP => exact rfl); (case aB => exact zB); (case aF => exact (fun k_ hk => ⟨Kd.fresh' (Kd.R_lt (zR HO_5)) k_ hk, Kd.fresh' (Kd.R_lt (zR HO_83)) k_ hk⟩)); (case aO => exact (zR HO_9)); (case aS => exact (below_size zB)); (case aL => have := LMc72.out; omega); intro v154 w74 ho hb hg hat; rw [← Ny153.out] at ho; have n0_ := Aside0.mk (Kd.R_after (ok := (fun _ => True)) (by (with_reducible repeat (first | apply Kd.R_alloc | apply Kd.R_drewN | apply Kd.R_drew)); exact Kd.R_mono HO_5.out (fun _ hk => ⟨trivial, hk⟩)) hg hat); have n1_ := Aside0.mk (Kd.R_after (ok := (fun _ => True)) (by (with_reducible repeat (first | apply Kd.R_alloc | apply Kd.R_drewN | apply Kd.R_drew)); exact Kd.R_mono HO_83.out (fun _ hk => ⟨trivial, hk⟩)) hg hat); have n2_ := Aside0.mk (hb); have n3_ := Aside0.mk (ho); clear HO_5; clear HO_83; clear HB; clear HO_9; have HO_5 := n0_; have HO_83 := n1_; have HB := n2_; have HO155 := n3_; clear n0_ n1_ n2_ n3_; clear ho hb hg hat))
                              go_roundg k5
                              case measure => have := HJ1.out; have := HK2.out; have := HJ23.out; have := HK4.out; have := HK5.out; omega
                              case rel => exact ⟨(y153), (wrap64 (x85_5 + 1)), zA, H', ⟨by have := HJ1.out; have := HK2.out; have := HJ23.out; have := HK4.out; have := HK5.out; omega⟩, ⟨by (with_reducible repeat (first | apply Kd.R_alloc | apply Kd.R_drewN | apply Kd.R_drew)); exact Kd.R_mono HO_5.out (fun _ hk => hk.2)⟩, ⟨zR HO155⟩, ⟨by (with_reducible repeat (first | apply Kd.R_alloc | apply Kd.R_drewN | apply Kd.R_drew)); exact Kd.R_mono HO_83.out (fun _ hk => hk.2)⟩, ⟨zB⟩⟩
                             ·rw [if_neg c72] at H
                              exact absurd H (by simp)
                         ·rw [if_neg c56] at H
                          have c56b0 : ((wrap64 ((rd x5_2 x85_5) - (rd x9_5 x10_4))) == 1) = false := beq_eq_false_iff_ne.mpr c56
                          have c56b1 : ((wrap64 ((rd x5_2 x85_5) - (rd x9_5 x10_4))) != 1) = true := bne_iff_ne.mpr c56
                          by_cases c75 : (wrap64 ((rd x5_2 x85_5) - (rd x9_5 x10_4))) = (-1)
                          ·rw [if_pos c75] at H
                           have c75b0 : ((wrap64 ((rd x5_2 x85_5) - (rd x9_5 x10_4))) == (-1)) = true := beq_iff_eq.mpr c75
                           have c75b1 : ((wrap64 ((rd x5_2 x85_5) - (rd x9_5 x10_4))) != (-1)) = false := bne_eq_false_iff_eq.mpr c75
                           clear c75
                           by_cases c76 : ((rdOf ByteArray.empty t123 0).size : Int) = 0
                           ·rw [if_pos c76] at H
                            exact absurd H (by simp)
                           ·rw [if_neg c76] at H
                            have c76b0 : (((rdOf ByteArray.empty t123 0).size : Int) == 0) = false := beq_eq_false_iff_ne.mpr c76
                            have c76b1 : (((rdOf ByteArray.empty t123 0).size : Int) != 0) = true := bne_iff_ne.mpr c76
                            by_cases c77 : (Int.tmod (rd x9_5 x10_4) ((rdOf ByteArray.empty t123 0).size : Int)) = 0
                            ·rw [if_pos c77] at H
                             have c77b0 : ((Int.tmod (rd x9_5 x10_4) ((rdOf ByteArray.empty t123 0).size : Int)) == 0) = true := beq_iff_eq.mpr c77
                             have c77b1 : ((Int.tmod (rd x9_5 x10_4) ((rdOf ByteArray.empty t123 0).size : Int)) != 0) = false := bne_eq_false_iff_eq.mpr c77
                             clear c77
                             have H' := Aside0.mk H
                             clear H
                             have p137 : 0 ≤ (x85_5 : Int) := of_decide_eq_true (by assumption)
                             have q137 : x85_5 < (x5_2.length : Int) := of_decide_eq_true (by assumption)
                             obtain ⟨ad137, e137, hx137_0⟩ := Kd.at_int (Kd.R_reads' HO_83.out).2.2 x85_5 p137 q137
                             obtain rfl : ad133 = ad137 := (by injection e137)
                             replace p137 := eq_true p137
                             replace q137 := eq_true q137
                             obtain ⟨Ao78, co78, eo78⟩ := Kd.R_slice HO_9.out
                             subst eo78
                             have p138 : 0 ≤ (x10_4 : Int) := of_decide_eq_true (by assumption)
                             have q138 : x10_4 < (x9_5.length : Int) := of_decide_eq_true (by assumption)
                             obtain ⟨ad138, e138, hx138_0⟩ := Kd.at_int (Kd.R_reads' HO_9.out).2.2 x10_4 p138 q138
                             cases e138
                             replace p138 := eq_true p138
                             replace q138 := eq_true q138
                             have p156 : 0 ≤ (x10_4 : Int) := of_decide_eq_true (by assumption)
                             have q156 : x10_4 < (x9_5.length : Int) := of_decide_eq_true (by assumption)
                             obtain ⟨ad156, e156, hx156_0⟩ := Kd.at_int (Kd.R_reads' HO_9.out).2.2 x10_4 p156 q156
                             obtain rfl : ad138 = ad156 := (by injection e156)
                             replace p156 := eq_true p156
                             replace q156 := eq_true q156
                             go_wp2
                             go_roundg k5
                             case measure => have := HJ1.out; have := HK2.out; have := HJ23.out; have := HK4.out; have := HK5.out; omega
                             case rel => exact ⟨(x9_5), (wrap64 (x85_5 + 1)), zA, H', ⟨by have := HJ1.out; have := HK2.out; have := HJ23.out; have := HK4.out; have := HK5.out; omega⟩, ⟨zR HO_5⟩, ⟨zR HO_9⟩, ⟨zR HO_83⟩, ⟨zB⟩⟩
                            ·rw [if_neg c77] at H
                             have c77b0 : ((Int.tmod (rd x9_5 x10_4) ((rdOf ByteArray.empty t123 0).size : Int)) == 0) = false := beq_eq_false_iff_ne.mpr c77
                             have c77b1 : ((Int.tmod (rd x9_5 x10_4) ((rdOf ByteArray.empty t123 0).size : Int)) != 0) = true := bne_iff_ne.mpr c77
                             replace H := Option.bind_eq_some_iff.mp H
                             obtain ⟨t157, A790, H⟩ := H
                             replace H : (if t157 = true then (spec_piIs.l3 k5 ((rdOf ByteArray.empty t123 0).size : Int) x5_2 x9_5 x10_4 x5_2 (x5_2.length : Int) (wrap64 (x85_5 + 1))) else (if x9_5.length < 17592186044416 then (spec_piIs.l3 k5 ((rdOf ByteArray.empty t123 0).size : Int) x5_2 (x9_5 ++ [rd x5_2 x85_5]) x10_4 x5_2 (x5_2.length : Int) (wrap64 (x85_5 + 1))) else (none))) = some r := H
                             have A79 := Aside0.mk A790
                             clear A790
                             by_cases c80 : t157 = true
                             ·subst c80
                              have H1 : (spec_piIs.l3 k5 ((rdOf ByteArray.empty t123 0).size : Int) x5_2 x9_5 x10_4 x5_2 (x5_2.length : Int) (wrap64 (x85_5 + 1))) = some r := by rw [if_pos rfl] at H; exact H
                              clear H
                              have H := H1
                              clear H1
                              have H' := Aside0.mk H
                              clear H
                              have p137 : 0 ≤ (x85_5 : Int) := of_decide_eq_true (by assumption)
                              have q137 : x85_5 < (x5_2.length : Int) := of_decide_eq_true (by assumption)
                              obtain ⟨ad137, e137, hx137_0⟩ := Kd.at_int (Kd.R_reads' HO_83.out).2.2 x85_5 p137 q137
                              obtain rfl : ad133 = ad137 := (by injection e137)
                              replace p137 := eq_true p137
                              replace q137 := eq_true q137
                              obtain ⟨Ao81, co81, eo81⟩ := Kd.R_slice HO_9.out
                              subst eo81
                              have p138 : 0 ≤ (x10_4 : Int) := of_decide_eq_true (by assumption)
                              have q138 : x10_4 < (x9_5.length : Int) := of_decide_eq_true (by assumption)
                              obtain ⟨ad138, e138, hx138_0⟩ := Kd.at_int (Kd.R_reads' HO_9.out).2.2 x10_4 p138 q138
                              cases e138
                              replace p138 := eq_true p138
                              replace q138 := eq_true q138
                              have p156 : 0 ≤ (x10_4 : Int) := of_decide_eq_true (by assumption)
                              have q156 : x10_4 < (x9_5.length : Int) := of_decide_eq_true (by assumption)
                              obtain ⟨ad156, e156, hx156_0⟩ := Kd.at_int (Kd.R_reads' HO_9.out).2.2 x10_4 p156 q156
                              obtain rfl : ad138 = ad156 := (by injection e156)
                              replace p156 := eq_true p156
                              replace q156 := eq_true q156
                              go_wp2_with (first | (go_at_call 36; (with_reducible refine (spec_l1Has.calls k5 _ _ x9_5 (rd x5_2 x85_5) true _ ?side1 ?side2 A79.out).mono ?_); (case side1 => exact zKr (Kd.R_reads' HO_9.out).2.2); (case side2 => exact (Kd.R_reads' HO_9.out).2.1); rintro e w' ⟨rfl, ⟨nd, rfl⟩⟩))
                              go_roundg k5
                              case measure => have := HJ1.out; have := HK2.out; have := HJ23.out; have := HK4.out; have := HK5.out; omega
                              case rel => exact ⟨(x9_5), (wrap64 (x85_5 + 1)), zA, H', ⟨by have := HJ1.out; have := HK2.out; have := HJ23.out; have := HK4.out; have := HK5.out; omega⟩, ⟨zR HO_5⟩, ⟨zR HO_9⟩, ⟨zR HO_83⟩, ⟨zB⟩⟩
                             ·replace c80 := Bool.eq_false_iff.mpr c80
                              subst c80
                              have H1 : (if x9_5.length < 17592186044416 then (spec_piIs.l3 k5 ((rdOf ByteArray.empty t123 0).size : Int) x5_2 (x9_5 ++ [rd x5_2 x85_5]) x10_4 x5_2 (x5_2.length : Int) (wrap64 (x85_5 + 1))) else (none)) = some r := by rw [if_neg (show ¬ (false = true) by decide)] at H; exact H
                              clear H
                              have H := H1
                              clear H1
                              by_cases c82 : x9_5.length < 17592186044416
                              ·rw [if_pos c82] at H
                               have LMc82 := Aside0.mk c82
                               clear c82
                               obtain ⟨y158, hy158⟩ : ∃ y_ : List Int, y_ = (x9_5 ++ [rd x5_2 x85_5]) := ⟨_, rfl⟩
                               replace H : (spec_piIs.l3 k5 ((rdOf ByteArray.empty t123 0).size : Int) x5_2 y158 x10_4 x5_2 (x5_2.length : Int) (wrap64 (x85_5 + 1))) = some r := by first | (rw [hy158]; with_reducible exact H) | (have H2_ := (Option.bind_some _ _).symm.trans H; rw [hy158]; with_reducible exact H2_) | (have H2_ := (Option.bind_some _ _).symm.trans H; with_reducible exact H2_) | with_reducible exact H | (rw [hy158]; exact H) | exact H
                               have Ny158 := Aside0.mk hy158
                               clear hy158
                               have H' := Aside0.mk H
                               clear H
                               have p137 : 0 ≤ (x85_5 : Int) := of_decide_eq_true (by assumption)
                               have q137 : x85_5 < (x5_2.length : Int) := of_decide_eq_true (by assumption)
                               obtain ⟨ad137, e137, hx137_0⟩ := Kd.at_int (Kd.R_reads' HO_83.out).2.2 x85_5 p137 q137
                               obtain rfl : ad133 = ad137 := (by injection e137)
                               replace p137 := eq_true p137
                               replace q137 := eq_true q137
                               obtain ⟨Ao83, co83, eo83⟩ := Kd.R_slice HO_9.out
                               subst eo83
                               have p138 : 0 ≤ (x10_4 : Int) := of_decide_eq_true (by assumption)
                               have q138 : x10_4 < (x9_5.length : Int) := of_decide_eq_true (by assumption)
                               obtain ⟨ad138, e138, hx138_0⟩ := Kd.at_int (Kd.R_reads' HO_9.out).2.2 x10_4 p138 q138
                               cases e138
                               replace p138 := eq_true p138
                               replace q138 := eq_true q138
                               have p156 : 0 ≤ (x10_4 : Int) := of_decide_eq_true (by assumption)
                               have q156 : x10_4 < (x9_5.length : Int) := of_decide_eq_true (by assumption)
                               obtain ⟨ad156, e156, hx156_0⟩ := Kd.at_int (Kd.R_reads' HO_9.out).2.2 x10_4 p156 q156
                               obtain rfl : ad138 = ad156 := (by injection e156)
                               replace p156 := eq_true p156
                               replace q156 := eq_true q156
                               go_wp2_with (first | (go_at_call 36; (with_reducible refine (spec_l1Has.calls k5 _ _ x9_5 (rd x5_2 x85_5) false _ ?side1 ?side2 A79.out).mono ?_); (case side1 => exact zKr (Kd.R_reads' HO_9.out).2.2); (case side2 => exact (Kd.R_reads' HO_9.out).2.1); rintro e w' ⟨rfl, ⟨nd, rfl⟩⟩) | ((with_reducible refine gate_builtin (b := .append) (xs := #[.tmp 134, .tmp 136]) rfl ?_); at_builtin; refine Kd.R_append (Kd.int .i64) (w0 := w) w.heap.size rfl (.tmp 134) (.tmp 136) 25 3 (.int .i64 0) 8 rfl Tryd.underlying25 info3 rfl (by decide) (by omega) (.slice (some ad138) x9_5.length co83) x9_5 (rd x5_2 x85_5) [.int .i64 (rd x5_2 x85_5)] (fun k_ => some k_ ≠ (.slice (some ad133) x5_2.length co32 : Value).ownBlock ∧ some k_ ≠ (.slice (some ad133) x5_2.length co32 : Value).ownBlock) (fun _ => False) rfl rfl ?aP (fun _ hk => hk.elim) ?aF ?aO ?aB ?aS ?aL ?_; (case aP => exact rfl); (case aB => exact zB); (case aF => exact (fun k_ hk => ⟨Kd.fresh' (Kd.R_lt (zR HO_5)) k_ hk, Kd.fresh' (Kd.R_lt (zR HO_83)) k_ hk⟩)); (case aO => exact (zR HO_9)); (case aS => exact (below_size zB)); (case aL => have := LMc82.out; omega); intro v159 w84 ho hb hg hat; rw [← Ny158.out] at ho; have n0_ := Aside0.mk (Kd.R_after (ok := (fun _ => True)) (by (with_reducible repeat (first | apply Kd.R_alloc | apply Kd.R_drewN | apply Kd.R_drew)); exact Kd.R_mono HO_5.out (fun _ hk => ⟨trivial, hk⟩)) hg hat); have n1_ := Aside0.mk (Kd.R_after (ok := (fun _ => True)) (by (with_reducible repeat (first | apply Kd.R_alloc | apply Kd.R_drewN | apply Kd.R_drew)); exact Kd.R_mono HO_83.out (fun _ hk => ⟨trivial, hk⟩)) hg hat); have n2_ := Aside0.mk (hb); have n3_ := Aside0.mk (ho); clear HO_5; clear HO_83; clear HB; clear HO_9; have HO_5 := n0_; have HO_83 := n1_; have HB := n2_; have HO160 := n3_; clear n0_ n1_ n2_ n3_; clear ho hb hg hat))
                               go_roundg k5
                               case measure => have := HJ1.out; have := HK2.out; have := HJ23.out; have := HK4.out; have := HK5.out; omega
                               case rel => exact ⟨(y158), (wrap64 (x85_5 + 1)), zA, H', ⟨by have := HJ1.out; have := HK2.out; have := HJ23.out; have := HK4.out; have := HK5.out; omega⟩, ⟨by (with_reducible repeat (first | apply Kd.R_alloc | apply Kd.R_drewN | apply Kd.R_drew)); exact Kd.R_mono HO_5.out (fun _ hk => hk.2)⟩, ⟨zR HO160⟩, ⟨by (with_reducible repeat (first | apply Kd.R_alloc | apply Kd.R_drewN | apply Kd.R_drew)); exact Kd.R_mono HO_83.out (fun _ hk => hk.2)⟩, ⟨zB⟩⟩
                              ·rw [if_neg c82] at H
                               exact absurd H (by simp)
                          ·rw [if_neg c75] at H
                           have c75b0 : ((wrap64 ((rd x5_2 x85_5) - (rd x9_5 x10_4))) == (-1)) = false := beq_eq_false_iff_ne.mpr c75
                           have c75b1 : ((wrap64 ((rd x5_2 x85_5) - (rd x9_5 x10_4))) != (-1)) = true := bne_iff_ne.mpr c75
                           have H' := Aside0.mk H
                           clear H
                           have p137 : 0 ≤ (x85_5 : Int) := of_decide_eq_true (by assumption)
                           have q137 : x85_5 < (x5_2.length : Int) := of_decide_eq_true (by assumption)
                           obtain ⟨ad137, e137, hx137_0⟩ := Kd.at_int (Kd.R_reads' HO_83.out).2.2 x85_5 p137 q137
                           obtain rfl : ad133 = ad137 := (by injection e137)
                           replace p137 := eq_true p137
                           replace q137 := eq_true q137
                           obtain ⟨Ao85, co85, eo85⟩ := Kd.R_slice HO_9.out
                           subst eo85
                           have p138 : 0 ≤ (x10_4 : Int) := of_decide_eq_true (by assumption)
                           have q138 : x10_4 < (x9_5.length : Int) := of_decide_eq_true (by assumption)
                           obtain ⟨ad138, e138, hx138_0⟩ := Kd.at_int (Kd.R_reads' HO_9.out).2.2 x10_4 p138 q138
                           cases e138
                           replace p138 := eq_true p138
                           replace q138 := eq_true q138
                           go_wp2
                           go_roundg k5
                           case measure => have := HJ1.out; have := HK2.out; have := HJ23.out; have := HK4.out; have := HK5.out; omega
                           case rel => exact ⟨(x9_5), (wrap64 (x85_5 + 1)), zA, H', ⟨by have := HJ1.out; have := HK2.out; have := HJ23.out; have := HK4.out; have := HK5.out; omega⟩, ⟨zR HO_5⟩, ⟨zR HO_9⟩, ⟨zR HO_83⟩, ⟨zB⟩⟩
                      ·rw [if_neg c41] at H
                       exact absurd H (by simp)
                     ·rw [if_neg c40] at H
                      exact absurd H (by simp)
                    ·rw [if_neg c39] at H
                     exact absurd H (by simp)
                   ·rw [if_neg c38] at H
                    exact absurd H (by simp)
                  ·rw [if_neg c37] at H
                   have c37b0 : decide (x85_5 < (x5_2.length : Int)) = false := decide_eq_false c37
                   clear c37
                   have H' := Aside0.mk H
                   clear H
                   go_wp2
                   go_roundg k5
                   case measure => have := HJ1.out; have := HK2.out; have := HJ23.out; have := HK4.out; have := HK5.out; omega
                   case rel => exact ⟨(x9_5), (wrap64 (x10_4 + 1)), zA, H', ⟨by have := HJ1.out; have := HK2.out; have := HJ23.out; have := HK4.out; have := HK5.out; omega⟩, ⟨zR HO_5⟩, ⟨by (with_reducible repeat (first | apply Kd.R_alloc | apply Kd.R_drewN | apply Kd.R_drew)); exact Kd.R_mono HO_9.out (fun _ hk => hk.1)⟩, ⟨zB⟩⟩
               ·rw [if_neg c35] at H
                have c35b0 : decide (x10_4 < (x9_4.length : Int)) = false := decide_eq_false c35
                clear c35
                obtain rfl := Option.some.inj H
                obtain ⟨Ao86, co86, eo86⟩ := Kd.R_slice HO_9.out
                subst eo86
                go_wp2
                go_ret
                exact ⟨zE, zB⟩
            ·rw [if_neg c31] at H
             exact absurd H (by simp)
    ·rw [if_neg c6] at H
     exact absurd H (by simp)

/-! ### spec_IsShapeText: function 8 -/
set_option maxHeartbeats 8000000 in
set_option maxRecDepth 100000 in
theorem spec_IsShapeText.calls (k : Nat) (a0 : ByteArray) (r : Bool) (w : World) (h : spec_IsShapeText.f k a0 = some r) :
  Calls Tryd.prog 8 #[.string a0] w fun e w' => e = .returned (.bool r) ∧ Below w.heap.size w w' := by
 have HB := Aside0.mk (Below.refl w.heap.size w)
 have H : ((spec_piIs.f k a0).bind fun t161 => (some t161)) = some r := h
 clear h
 replace H := Option.bind_eq_some_iff.mp H
 obtain ⟨t161, A20, H⟩ := H
 replace H : (some t161) = some r := H
 have A2 := Aside0.mk A20
 clear A20
 obtain rfl := Option.some.inj H
 go_enter Tryd.func8, Tryd.ntmps8
 go_wp2_with (first | ((with_reducible refine gate_callee (f := 21) rfl ?_); refine goesL_ (some 4) rfl rfl Tryd.func21 (by kernel_rfl) rfl #[.string a0] rfl zM ?_; (with_reducible refine (spec_piIs.calls k a0 t161 _ A2.out).mono ?_); rintro e w3 ⟨rfl, hb⟩; refine ⟨_, rfl, ?_⟩; replace HB := zBb hb; (try clear hb); (try clear hb2); (try clear hk); (try clear hi)))
 go_ret
 exact ⟨zE, zB⟩

end Go.Proofs.YtfkbjflndkjlnaaDoor.L
