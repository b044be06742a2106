import Derived.Test.YtfkbjflndkjlnaaDoorPd
import Derived.Test.YtfkbjflndkjlnaaDoorPc1
import Derived.Test.YtfkbjflndkjlnaaDoorPc4
import Derived.Test.YtfkbjflndkjlnaaDoorPc6
namespace Go.Proofs.YtfkbjflndkjlnaaDoor.P
open Go.RowKit Go.Proofs.YtfkbjflndkjlnaaDoorW.PrintWords Go.Proofs.YtfkbjflndkjlnaaDoorW.PrintLast Go.Proofs.YtfkbjflndkjlnaaDoorW.PrintMore
attribute [local go_sem] max2_int min2_int max_two min_two max_three min_three max_four min_four
set_option linter.unusedVariables false
set_option linter.unusedSimpArgs false

/-! ### impl_grid_regions: function 80 -/
def impl_grid_regions.T19 : Bool × List (List Nat × List Nat) := (true, [([], []), ([], []), ([0, 1], [0, 1]), ([2], [2]), ([], []), ([], []), ([4, 5], [4, 5]), ([6], [6]), ([3, 7], [3, 7]), ([8, 0, 1, 2, 3, 4, 5, 6, 7, 8], [8])])
def impl_grid_regions.B19 : List Nat := [0, 0, 3, 7, 0, 0, 48, 112, 255, 511]
theorem impl_grid_regions.tab19 : rtab .any (opsOf Tryd.f80 19) = impl_grid_regions.T19 := by kernel_rfl
theorem impl_grid_regions.bits19 : waitsOk impl_grid_regions.T19.2 impl_grid_regions.B19 = true := by kernel_rfl
set_option maxHeartbeats 8000000 in
set_option maxRecDepth 100000 in
theorem impl_grid_regions.calls (k : Nat) (a0_0 : Int) (a0_1 : Int) (a1 : Int) (a2 : Bool) (r : List (List Int)) (w : World) (h : impl_grid_regions.f k a0_0 a0_1 a1 a2 = some r) :
  Calls Tryd.prog 80 #[.agg #[.int .i64 a0_0, .int .i64 a0_1], .int .u64 a1, .bool a2] w fun e w' => ∃ v0_ : Value, e = .returned (v0_) ∧ Kd.S (Kd.slice 3 (Kd.int .i64)) 25 w' w.heap.size (fun _ => True) v0_ r ∧ Below w.heap.size w w' := by
 have hu58 := Tryd.underlying58
 have HB := Aside0.mk (Below.refl w.heap.size w)
 have H : (impl_grid_regions.l0 k a1 a2 (wrap64 (a0_0 * a0_1)) (([] : List Int)) (wrap64 ((wrap64 (a0_0 * a0_1)) + 1)) 0 a0_0 a0_1) = some r := h
 clear h
 obtain ⟨y228, hy228⟩ : ∃ y_ : List Int, y_ = (([] : List Int)) := ⟨_, rfl⟩
 replace H : (impl_grid_regions.l0 k a1 a2 (wrap64 (a0_0 * a0_1)) y228 (wrap64 ((wrap64 (a0_0 * a0_1)) + 1)) 0 a0_0 a0_1) = some r := by first | (rw [hy228]; with_reducible exact H) | (have H2_ := (Option.bind_some _ _).symm.trans H; rw [hy228]; with_reducible exact H2_) | (have H2_ := (Option.bind_some _ _).symm.trans H; with_reducible exact H2_) | with_reducible exact H | (rw [hy228]; exact H) | exact H
 have Ny228 := Aside0.mk hy228
 clear hy228
 have H' := Aside0.mk H
 clear H
 go_enter Tryd.func80, Tryd.ntmps80
 go_wp2_with (first | ((with_reducible refine gate_dst (N := 3) rfl ?_); (try (refine gate_guard (by rfl) ?_; dsimp only)); refine zbx 3 #[.int .i64 a0_0, .int .i64 a0_1] 58 ?_; intro gb227 hg w4 hbox hb; have BK227 := Aside0.mk (hbox); have GW227 := zGe hg; have GE227 := zGe hg; replace HB := zBb hb; clear hb hbox hg; obtain ⟨hcz5_0, hcz5_1, hfz5_0, hfz5_1⟩ := blk2 BK227) | ((with_reducible refine gate_dst (N := 24) rfl ?_); (try (refine gate_guard (by rfl) ?_; dsimp only)); refine Kd.R_lit (Kd.int .i64) _ 3 ?hg (N := 24) ?hd (xs := ([] : List Int)) (inner := []) (ok := fun _ => True) (okp := fun _ => True) ?hr ?hp (fun _ hk => hk) trivial (Below.refl _ _) (Nat.le_refl _) (by simp) ?_; (case hd => rfl); (case hg => rfl); (case hr => first | (go_simp; done) | (go_simp; rfl)); (case hp => exact (Reps.none _ _)); intro v229 w6 ho7 hb hg_ hnew_; clear hg_ hnew_; (first | rw [← Ny228.out] at ho7 | (simp only [Int.reduceToNat] at ho7; rw [← Ny228.out] at ho7)); have HO230 := Aside0.mk (Kd.R_lower ho7 (below_size zB)); replace BK227 := zKb BK227 hb; replace HB := zBb hb; clear hb ho7))
 go_loopg [8, 27] k (fun kq v8 v27 w' => ∃ (x8_1 : List Int) (x27_1 : Int), v27 = .int .i64 x27_1 ∧ Aside0 (impl_grid_regions.l0 kq a1 a2 (wrap64 (a0_0 * a0_1)) x8_1 (wrap64 ((wrap64 (a0_0 * a0_1)) + 1)) x27_1 a0_0 a0_1 = some r) ∧ Aside0 (kq ≤ k) ∧ Aside0 (Kd.R (Kd.int .i64) 3 w' w.heap.size (fun _ => True) v8 x8_1) ∧ Aside0 (w'.heap[gb227]? = some (.cells #[.int .i64 a0_0, .int .i64 a0_1] 58 (0, 0))) ∧ Aside0 (Below w.heap.size w w'))
 case atStart => exact ⟨(y228), (0), zA, H', ⟨Nat.le_refl _⟩, ⟨zR HO230⟩, ⟨zK BK227⟩, ⟨zB⟩⟩
 case round =>
  clear H'
  (try clear p2); (try clear p6); (try clear hcz5_0); (try clear hcz5_1); (try clear hfz5_0); (try clear hfz5_1)
  obtain ⟨x8_1, x27_1, rfl, HA, HK1, HO_8, BK227, HB⟩ := hrel
  cases gk with
  | zero => exact absurd HA.out (by simp [impl_grid_regions.l0])
  | succ k1 =>
   have H := HA.out
   clear HA
   simp only [impl_grid_regions.l0] at H
   by_cases c8 : x27_1 < (wrap64 ((wrap64 (a0_0 * a0_1)) + 1))
   ·rw [if_pos c8] at H
    have c8b0 : decide (x27_1 < (wrap64 ((wrap64 (a0_0 * a0_1)) + 1))) = true := decide_eq_true c8
    clear c8
    by_cases c9 : x8_1.length < 17592186044416
    ·rw [if_pos c9] at H
     have LMc9 := Aside0.mk c9
     clear c9
     obtain ⟨y231, hy231⟩ : ∃ y_ : List Int, y_ = (x8_1 ++ [x27_1]) := ⟨_, rfl⟩
     replace H : (impl_grid_regions.l0 k1 a1 a2 (wrap64 (a0_0 * a0_1)) y231 (wrap64 ((wrap64 (a0_0 * a0_1)) + 1)) (wrap64 (x27_1 + 1)) a0_0 a0_1) = some r := by first | (rw [hy231]; with_reducible exact H) | (have H2_ := (Option.bind_some _ _).symm.trans H; rw [hy231]; with_reducible exact H2_) | (have H2_ := (Option.bind_some _ _).symm.trans H; with_reducible exact H2_) | with_reducible exact H | (rw [hy231]; exact H) | exact H
     have Ny231 := Aside0.mk hy231
     clear hy231
     have H' := Aside0.mk H
     clear H
     go_wp2_with (first | ((with_reducible refine gate_builtin (b := .append) (xs := #[.tmp 30, .tmp 32]) rfl ?_); (try (refine gate_guard (by rfl) ?_; dsimp only)); at_builtin; refine Kd.R_append (Kd.int .i64) (w0 := w) w.heap.size rfl (.tmp 30) (.tmp 32) 25 3 (.int .i64 0) 8 rfl Tryd.underlying25 info3 rfl (by decide) (by omega) u8 x8_1 x27_1 [.int .i64 x27_1] (fun _ => True) (fun _ => False) rfl rfl ?aP (fun _ hk => hk.elim) ?aF ?aO ?aB ?aS ?aL ?_; (case aP => exact rfl); (case aB => exact zB); (case aF => exact (fun _ _ => trivial)); (case aO => exact (zR HO_8)); (case aS => exact (below_size zB)); (case aL => have := LMc9.out; omega); intro v232 w10 ho hb hg hat; rw [← Ny231.out] at ho; have n0_ := Aside0.mk (blk_grown (g := gb227) (o := .cells #[.int .i64 a0_0, .int .i64 a0_1] 58 (0, 0)) (zK BK227) hg (Kd.R_ne HO_8.out BK227.out (by decide))); have n1_ := Aside0.mk (hb); have n2_ := Aside0.mk (ho); clear BK227; clear HB; clear HO_8; have BK227 := n0_; have HB := n1_; have HO233 := n2_; clear n0_ n1_ n2_; clear ho hb hg hat))
     go_roundg k1
     case measure => have := HK1.out; omega
     case rel => exact ⟨(y231), (wrap64 (x27_1 + 1)), zA, H', ⟨by have := HK1.out; omega⟩, ⟨zR HO233⟩, ⟨zK BK227⟩, ⟨zB⟩⟩
    ·rw [if_neg c9] at H
     exact absurd H (by simp)
   ·rw [if_neg c8] at H
    have c8b0 : decide (x27_1 < (wrap64 ((wrap64 (a0_0 * a0_1)) + 1))) = false := decide_eq_false c8
    clear c8
    have H' := Aside0.mk H
    clear H
    go_wp2
    go_loopg [37] k1 (fun kq v37 w' => ∃ (x8_2 : List Int) (x37_2 : Int), v37 = .int .i64 x37_2 ∧ Aside0 (impl_grid_regions.l1 kq a1 a2 (wrap64 (a0_0 * a0_1)) x8_2 (wrap64 ((wrap64 (a0_0 * a0_1)) + 1)) x37_2 a0_0 a0_1 = some r) ∧ Aside0 (kq ≤ k1) ∧ Aside0 (Kd.R (Kd.int .i64) 3 w' w.heap.size (fun _ => True) u8 x8_2) ∧ Aside0 (w'.heap[gb227]? = some (.cells #[.int .i64 a0_0, .int .i64 a0_1] 58 (0, 0))) ∧ Aside0 (Below w.heap.size w w'))
    case atStart => exact ⟨(x8_1), (0), zA, H', ⟨Nat.le_refl _⟩, ⟨zR HO_8⟩, ⟨zK BK227⟩, ⟨zB⟩⟩
    case round =>
     clear H'
     (try clear p2); (try clear p6); (try clear c8); (try clear c8b0); (try clear c9); (try clear hcz5_0); (try clear hcz5_1); (try clear hfz5_0); (try clear hfz5_1); (try clear p2); (try clear p6)
     obtain ⟨x8_2, x37_2, rfl, HA, HK2, HO_8, BK227, HB⟩ := hrel
     cases gk with
     | zero => exact absurd HA.out (by simp [impl_grid_regions.l1])
     | succ k2 =>
      have H := HA.out
      clear HA
      simp only [impl_grid_regions.l1] at H
      by_cases c11 : x37_2 < (wrap64 ((wrap64 (a0_0 * a0_1)) + 1))
      ·rw [if_pos c11] at H
       have c11b0 : decide (x37_2 < (wrap64 ((wrap64 (a0_0 * a0_1)) + 1))) = true := decide_eq_true c11
       clear c11
       replace H := Option.bind_eq_some_iff.mp H
       obtain ⟨t234, A120, H⟩ := H
       replace H : ((impl_grid_uprights.f a0_0 a0_1).bind fun t235 => (impl_grid_regions.l2 k2 a1 a2 (wrap64 (a0_0 * a0_1)) x8_2 (wrap64 ((wrap64 (a0_0 * a0_1)) + 1)) x37_2 (wrap64 (t234 + t235)) 0 a0_0 a0_1)) = some r := H
       have A12 := Aside0.mk A120
       clear A120
       replace H := Option.bind_eq_some_iff.mp H
       obtain ⟨t235, A130, H⟩ := H
       replace H : (impl_grid_regions.l2 k2 a1 a2 (wrap64 (a0_0 * a0_1)) x8_2 (wrap64 ((wrap64 (a0_0 * a0_1)) + 1)) x37_2 (wrap64 (t234 + t235)) 0 a0_0 a0_1) = some r := H
       have A13 := Aside0.mk A130
       clear A130
       have H' := Aside0.mk H
       clear H
       try go_wp2
       replace HO_8 := Aside0.mk (Kd.R_drew HO_8.out)
       replace BK227 := Aside0.mk (blk_drew BK227.out)
       replace HB := Aside0.mk (below_drew1 HB.out)
       refine start_ (n := 6) (S := fun w' => w'.cell? ⟨gb227, 0, none⟩ = some (.int .i64 a0_0) ∧ w'.cell? ⟨gb227, 1, none⟩ = some (.int .i64 a0_1)) (ds := []) (fl 6 0) (by kernel_rfl) rfl rfl zQ (fun hHeld => ?_)
       generalize wr.drew = w14 at HO_8 BK227 HB hHeld ⊢
       refine zpu 5 (some 44) (fl 6 32) ?_
       refine ztk 0 (some 39) (fl 6 33) hHeld ?_
       refine ztk 2 (some 41) (fl 6 37) hHeld ?_
       refine zone 1 (some 40) (fl 6 39) (fun K hK => ?_)
       refine zgo Tryd.func78 #[.agg #[.int .i64 a0_0, .int .i64 a0_1]] ?_
       with_reducible refine (impl_grid_levels.calls a0_0 a0_1 t234 _ A12.out).mono ?_
       rintro e w15 ⟨rfl, hb⟩
       refine ⟨_, rfl, ?_⟩
       replace HO_8 := Aside0.mk (Kd.R_below (zR HO_8) hb)
       replace BK227 := zKb BK227 hb
       replace HB := zBb hb
       (try clear hb)
       (try clear hb2)
       (try clear hk)
       (try clear hi)
       refine hK.out _ _ zQ (fun hHeld => ?_)
       clear hK K
       refine znm ?_
       refine zone 3 (some 42) (fl 6 47) (fun K hK => ?_)
       refine zgo Tryd.func79 #[.agg #[.int .i64 a0_0, .int .i64 a0_1]] ?_
       with_reducible refine (impl_grid_uprights.calls a0_0 a0_1 t235 _ A13.out).mono ?_
       rintro e w16 ⟨rfl, hb⟩
       refine ⟨_, rfl, ?_⟩
       replace HO_8 := Aside0.mk (Kd.R_below (zR HO_8) hb)
       replace BK227 := zKb BK227 hb
       replace HB := zBb hb
       (try clear hb)
       (try clear hb2)
       (try clear hk)
       (try clear hi)
       refine hK.out _ _ zQ (fun hHeld => ?_)
       clear hK K
       refine znm ?_
       refine zpu 4 (some 43) (fl 6 63) ?_
       refine done_ (by kernel_rfl) ?_
       try go_wp2
       go_loopg [44] k2 (fun kq v44 w' => ∃ (x8_3 : List Int) (x44_3 : Int), v44 = .int .i64 x44_3 ∧ Aside0 (impl_grid_regions.l2 kq a1 a2 (wrap64 (a0_0 * a0_1)) x8_3 (wrap64 ((wrap64 (a0_0 * a0_1)) + 1)) x37_2 (wrap64 (t234 + t235)) x44_3 a0_0 a0_1 = some r) ∧ Aside0 (kq ≤ k2) ∧ Aside0 (Kd.R (Kd.int .i64) 3 w' w.heap.size (fun _ => True) u8 x8_3) ∧ Aside0 (w'.heap[gb227]? = some (.cells #[.int .i64 a0_0, .int .i64 a0_1] 58 (0, 0))) ∧ Aside0 (Below w.heap.size w w'))
       case atStart => exact ⟨(x8_2), (0), zA, H', ⟨Nat.le_refl _⟩, ⟨zR HO_8⟩, ⟨zK BK227⟩, ⟨zB⟩⟩
       case round =>
        clear H'
        (try clear c1); (try clear p2); (try clear p6); (try clear c7); (try clear c8); (try clear c8b0); (try clear c9); (try clear c11); (try clear c11b0); (try clear hcz5_0); (try clear hcz5_1); (try clear hfz5_0); (try clear hfz5_1); (try clear p2); (try clear p6)
        obtain ⟨x8_3, x44_3, rfl, HA, HK3, HO_8, BK227, HB⟩ := hrel
        cases gk with
        | zero => exact absurd HA.out (by simp [impl_grid_regions.l2])
        | succ k3 =>
         have H := HA.out
         clear HA
         simp only [impl_grid_regions.l2] at H
         by_cases c17 : x44_3 < (wrap64 (t234 + t235))
         ·rw [if_pos c17] at H
          have c17b0 : decide (x44_3 < (wrap64 (t234 + t235))) = true := decide_eq_true c17
          clear c17
          replace H := Option.bind_eq_some_iff.mp H
          obtain ⟨⟨t236, t237⟩, A180, H⟩ := H
          replace H : (if t236 < 0 then (impl_grid_regions.j3 k3 a1 a2 (wrap64 (a0_0 * a0_1)) x8_3 x44_3 (wrap64 (a0_0 * a0_1)) t237 (wrap64 ((wrap64 (a0_0 * a0_1)) + 1)) x37_2 (wrap64 (t234 + t235)) x44_3 a0_0 a0_1) else (impl_grid_regions.j3 k3 a1 a2 (wrap64 (a0_0 * a0_1)) x8_3 x44_3 t236 t237 (wrap64 ((wrap64 (a0_0 * a0_1)) + 1)) x37_2 (wrap64 (t234 + t235)) x44_3 a0_0 a0_1)) = some r := H
          have A18 := Aside0.mk A180
          clear A180
          have HC19 := Aside0.mk H
          clear H
          obtain ⟨hcz20_0, hcz20_1, hfz20_0, hfz20_1⟩ := blk2 BK227
          go_upto_if 54 with (first | ((with_reducible refine gate_callee (f := 100) rfl ?_); refine goesL_ (some 50) rfl rfl Tryd.func100 (by kernel_rfl) rfl #[.agg #[.int .i64 a0_0, .int .i64 a0_1], .int .i64 x44_3] rfl zM ?_; (with_reducible refine (impl_grid_beside.calls a0_0 a0_1 x44_3 t236 t237 _ A18.out).mono ?_); rintro e w21 ⟨rfl, hb⟩; refine ⟨_, rfl, ?_⟩; replace HO_8 := Aside0.mk (Kd.R_below (zR HO_8) hb); replace BK227 := zKb BK227 hb; replace HB := zBb hb; (try clear hb); (try clear hb2); (try clear hk); (try clear hi)))
          (try simp only [Act.put, List.setIfInBounds_toArray, List.set_cons_zero, List.set_cons_succ])
          go_cut [11] (fun v11 wc => ∃ (kq : Nat) (x11_18 : Int), v11 = .int .i64 x11_18 ∧ Aside0 (impl_grid_regions.j3 kq a1 a2 (wrap64 (a0_0 * a0_1)) x8_3 x44_3 x11_18 t237 (wrap64 ((wrap64 (a0_0 * a0_1)) + 1)) x37_2 (wrap64 (t234 + t235)) x44_3 a0_0 a0_1 = some r) ∧ Aside0 (kq ≤ k3) ∧ Aside0 (Kd.R (Kd.int .i64) 3 wc w.heap.size (fun _ => True) u8 x8_3) ∧ Aside0 (wc.heap[gb227]? = some (.cells #[.int .i64 a0_0, .int .i64 a0_1] 58 (0, 0))) ∧ Aside0 (Below w.heap.size w wc))
          case first =>
           have H := HC19.out
           clear HC19
           by_cases c22 : t236 < 0
           ·rw [if_pos c22] at H
            have c22b0 : decide (t236 < 0) = true := decide_eq_true c22
            clear c22
            (first | rw [c22b0] | (simp only [i64_w, i32_w]; rw [c22b0]) | skip)
            have H' := Aside0.mk H
            clear H
            go_wp2
            go_meet
            case rel => exact ⟨_, ((wrap64 (a0_0 * a0_1))), zA, H', ⟨by have := HK1.out; have := HK2.out; have := HK3.out; first | omega | exact Nat.le_refl _⟩, ⟨zR HO_8⟩, ⟨zK BK227⟩, ⟨zB⟩⟩
           ·rw [if_neg c22] at H
            have c22b0 : decide (t236 < 0) = false := decide_eq_false c22
            clear c22
            (first | rw [c22b0] | (simp only [i64_w, i32_w]; rw [c22b0]) | skip)
            have H' := Aside0.mk H
            clear H
            go_wp2
            go_meet
            case rel => exact ⟨_, (t236), zA, H', ⟨by have := HK1.out; have := HK2.out; have := HK3.out; first | omega | exact Nat.le_refl _⟩, ⟨zR HO_8⟩, ⟨zK BK227⟩, ⟨zB⟩⟩
          case rest =>
           clear HC19
           (try clear c1); (try clear c2); (try clear p2); (try clear p6); (try clear c7); (try clear c8); (try clear c8b0); (try clear c9); (try clear c10); (try clear c11); (try clear c11b0); (try clear c17); (try clear c17b0); (try clear c22); (try clear c22b0); (try clear hcz20_0); (try clear hcz20_1); (try clear hcz5_0); (try clear hcz5_1); (try clear hfz20_0); (try clear hfz20_1); (try clear hfz5_0); (try clear hfz5_1); (try clear p2); (try clear p6)
           obtain ⟨kq, x11_18, rfl, HA, HJ18, HO_8, BK227, HB⟩ := hcut
           cases kq with
           | zero => exact absurd HA.out (by simp [impl_grid_regions.j3])
           | succ kj18 =>
            have H := HA.out
            clear HA
            simp only [impl_grid_regions.j3] at H
            by_cases c23 : t237 < 0
            ·rw [if_pos c23] at H
             have c23b0 : decide (t237 < 0) = true := decide_eq_true c23
             clear c23
             by_cases c24 : 0 ≤ x44_3
             ·rw [if_pos c24] at H
              have c24b0 := eq_true c24
              have c24b1 : decide (0 ≤ x44_3) = true := decide_eq_true c24
              clear c24
              obtain ⟨ji25, hji25⟩ : ∃ j_ : Int, (shr .u64 a1 x44_3) = j_ := ⟨_, rfl⟩
              replace H : (if (Go.bits .and .u64 (ji25) 1) = 1 then (impl_grid_regions.l2 kj18 a1 a2 (wrap64 (a0_0 * a0_1)) x8_3 (wrap64 ((wrap64 (a0_0 * a0_1)) + 1)) x37_2 (wrap64 (t234 + t235)) (wrap64 (x44_3 + 1)) a0_0 a0_1) else (if a2 = true then (if 0 ≤ x11_18 then (if x11_18 < (x8_3.length : Int) then (if 0 ≤ (wrap64 (a0_0 * a0_1)) then (if (wrap64 (a0_0 * a0_1)) < (x8_3.length : Int) then (impl_grid_regions.l2 kj18 a1 a2 (wrap64 (a0_0 * a0_1)) ((x8_3.set (x11_18 : Int).toNat (mn (rd x8_3 x11_18) (rd x8_3 (wrap64 (a0_0 * a0_1))))).set ((wrap64 (a0_0 * a0_1)) : Int).toNat (mn (rd x8_3 x11_18) (rd x8_3 (wrap64 (a0_0 * a0_1))))) (wrap64 ((wrap64 (a0_0 * a0_1)) + 1)) x37_2 (wrap64 (t234 + t235)) (wrap64 (x44_3 + 1)) a0_0 a0_1) else (none)) else (none)) else (none)) else (none)) else (if (mx x11_18 (wrap64 (a0_0 * a0_1))) = (wrap64 (a0_0 * a0_1)) then (impl_grid_regions.l2 kj18 a1 a2 (wrap64 (a0_0 * a0_1)) x8_3 (wrap64 ((wrap64 (a0_0 * a0_1)) + 1)) x37_2 (wrap64 (t234 + t235)) (wrap64 (x44_3 + 1)) a0_0 a0_1) else (if 0 ≤ x11_18 then (if x11_18 < (x8_3.length : Int) then (if 0 ≤ (wrap64 (a0_0 * a0_1)) then (if (wrap64 (a0_0 * a0_1)) < (x8_3.length : Int) then (impl_grid_regions.l2 kj18 a1 a2 (wrap64 (a0_0 * a0_1)) ((x8_3.set (x11_18 : Int).toNat (mn (rd x8_3 x11_18) (rd x8_3 (wrap64 (a0_0 * a0_1))))).set ((wrap64 (a0_0 * a0_1)) : Int).toNat (mn (rd x8_3 x11_18) (rd x8_3 (wrap64 (a0_0 * a0_1))))) (wrap64 ((wrap64 (a0_0 * a0_1)) + 1)) x37_2 (wrap64 (t234 + t235)) (wrap64 (x44_3 + 1)) a0_0 a0_1) else (none)) else (none)) else (none)) else (none))))) = some r := by first | (rw [hji25] at H; exact H) | (simp only [hji25] at H ⊢; exact H)
              have hji25_ : (a1 / 2 ^ min x44_3.toNat 64) = ji25 := hji25
              have hji25z : x44_3 ≤ 64 → (a1 / 2 ^ x44_3.toNat) = ji25 := shr_small hji25
              by_cases c26 : (Go.bits .and .u64 (ji25) 1) = 1
              ·rw [if_pos c26] at H
               have c26b0 : ((Go.bits .and .u64 (ji25) 1) == 1) = true := beq_iff_eq.mpr c26
               have c26b1 : ((Go.bits .and .u64 (ji25) 1) != 1) = false := bne_eq_false_iff_eq.mpr c26
               clear c26
               have H' := Aside0.mk H
               clear H
               go_wp2
               first | go_roundg kj18 | ((try subst hji25); go_roundg kj18)
               case measure => have := HK1.out; have := HK2.out; have := HK3.out; have := HJ18.out; omega
               case rel => exact ⟨(x8_3), (wrap64 (x44_3 + 1)), zA, H', ⟨by have := HK1.out; have := HK2.out; have := HK3.out; have := HJ18.out; omega⟩, ⟨zR HO_8⟩, ⟨zK BK227⟩, ⟨zB⟩⟩
              ·rw [if_neg c26] at H
               have c26b0 : ((Go.bits .and .u64 (ji25) 1) == 1) = false := beq_eq_false_iff_ne.mpr c26
               have c26b1 : ((Go.bits .and .u64 (ji25) 1) != 1) = true := bne_iff_ne.mpr c26
               by_cases c27 : a2 = true
               ·subst c27
                have H1 : (if 0 ≤ x11_18 then (if x11_18 < (x8_3.length : Int) then (if 0 ≤ (wrap64 (a0_0 * a0_1)) then (if (wrap64 (a0_0 * a0_1)) < (x8_3.length : Int) then (impl_grid_regions.l2 kj18 a1 true (wrap64 (a0_0 * a0_1)) ((x8_3.set (x11_18 : Int).toNat (mn (rd x8_3 x11_18) (rd x8_3 (wrap64 (a0_0 * a0_1))))).set ((wrap64 (a0_0 * a0_1)) : Int).toNat (mn (rd x8_3 x11_18) (rd x8_3 (wrap64 (a0_0 * a0_1))))) (wrap64 ((wrap64 (a0_0 * a0_1)) + 1)) x37_2 (wrap64 (t234 + t235)) (wrap64 (x44_3 + 1)) a0_0 a0_1) else (none)) else (none)) else (none)) else (none)) = some r := by rw [if_pos rfl] at H; exact H
                clear H
                have H := H1
                clear H1
                by_cases c28 : 0 ≤ x11_18
                ·rw [if_pos c28] at H
                 have c28b0 : decide (0 ≤ x11_18) = true := decide_eq_true c28
                 clear c28
                 by_cases c29 : x11_18 < (x8_3.length : Int)
                 ·rw [if_pos c29] at H
                  have c29b0 : decide (x11_18 < (x8_3.length : Int)) = true := decide_eq_true c29
                  clear c29
                  obtain ⟨ji30, hji30⟩ : ∃ j_ : Int, (wrap64 (a0_0 * a0_1)) = j_ := ⟨_, rfl⟩
                  replace H : (if 0 ≤ (ji30) then (if (ji30) < (x8_3.length : Int) then (impl_grid_regions.l2 kj18 a1 true (ji30) ((x8_3.set (x11_18 : Int).toNat (mn (rd x8_3 x11_18) (rd x8_3 (ji30)))).set ((ji30) : Int).toNat (mn (rd x8_3 x11_18) (rd x8_3 (ji30)))) (wrap64 ((ji30) + 1)) x37_2 (wrap64 (t234 + t235)) (wrap64 (x44_3 + 1)) a0_0 a0_1) else (none)) else (none)) = some r := by first | (rw [hji30] at H; exact H) | (simp only [hji30] at H ⊢; exact H)
                  (try rw [hji30] at c8b0)
                  (try rw [hji30] at c11b0)
                  have hji30w : (IntKind.i64.wrap (a0_0 * a0_1)) = ji30 := (i64_w _).trans hji30
                  by_cases c31 : 0 ≤ (ji30)
                  ·rw [if_pos c31] at H
                   have c31b0 : decide (0 ≤ (ji30)) = true := decide_eq_true c31
                   clear c31
                   by_cases c32 : (ji30) < (x8_3.length : Int)
                   ·rw [if_pos c32] at H
                    have c32b0 : decide ((ji30) < (x8_3.length : Int)) = true := decide_eq_true c32
                    clear c32
                    obtain ⟨ji33, hji33⟩ : ∃ j_ : Int, (mn (rd x8_3 x11_18) (rd x8_3 (ji30))) = j_ := ⟨_, rfl⟩
                    replace H : (impl_grid_regions.l2 kj18 a1 true (ji30) ((x8_3.set (x11_18 : Int).toNat (ji33)).set ((ji30) : Int).toNat (ji33)) (wrap64 ((ji30) + 1)) x37_2 (wrap64 (t234 + t235)) (wrap64 (x44_3 + 1)) a0_0 a0_1) = some r := by first | (rw [hji33] at H; exact H) | (simp only [hji33] at H ⊢; exact H)
                    have hji33_ : (if (rd x8_3 (ji30)) < (rd x8_3 x11_18) then (rd x8_3 (ji30)) else (rd x8_3 x11_18)) = ji33 := hji33
                    obtain ⟨y240, hy240⟩ : ∃ y_ : List Int, y_ = (x8_3.set (x11_18 : Int).toNat (ji33)) := ⟨_, rfl⟩
                    replace H : (impl_grid_regions.l2 kj18 a1 true (ji30) (y240.set ((ji30) : Int).toNat (ji33)) (wrap64 ((ji30) + 1)) x37_2 (wrap64 (t234 + t235)) (wrap64 (x44_3 + 1)) a0_0 a0_1) = some r := by first | (rw [hy240]; with_reducible exact H) | (have H2_ := (Option.bind_some _ _).symm.trans H; rw [hy240]; with_reducible exact H2_) | (have H2_ := (Option.bind_some _ _).symm.trans H; with_reducible exact H2_) | with_reducible exact H | (rw [hy240]; exact H) | exact H
                    have Ny240 := Aside0.mk hy240
                    clear hy240
                    obtain ⟨y241, hy241⟩ : ∃ y_ : List Int, y_ = (y240.set ((ji30) : Int).toNat (ji33)) := ⟨_, rfl⟩
                    replace H : (impl_grid_regions.l2 kj18 a1 true (ji30) y241 (wrap64 ((ji30) + 1)) x37_2 (wrap64 (t234 + t235)) (wrap64 (x44_3 + 1)) a0_0 a0_1) = some r := by first | (rw [hy241]; with_reducible exact H) | (have H2_ := (Option.bind_some _ _).symm.trans H; rw [hy241]; with_reducible exact H2_) | (have H2_ := (Option.bind_some _ _).symm.trans H; with_reducible exact H2_) | with_reducible exact H | (rw [hy241]; exact H) | exact H
                    have Ny241 := Aside0.mk hy241
                    clear hy241
                    have H' := Aside0.mk H
                    clear H
                    try go_wp2
                    replace HO_8 := Aside0.mk (Kd.R_drew HO_8.out)
                    replace BK227 := Aside0.mk (blk_drew BK227.out)
                    replace HB := Aside0.mk (below_drew1 HB.out)
                    obtain ⟨Ao37, co37, eo37⟩ := Kd.R_slice HO_8.out
                    (first | subst eo37 | (injection eo37 with f1_ f2_ f3_; have f4_ := f1_.symm; have f5_ := f3_.symm; clear f1_ f2_ f3_; subst f4_; subst f5_))
                    have p238 : 0 ≤ (x11_18 : Int) := of_decide_eq_true (by assumption)
                    have q238 : x11_18 < (x8_3.length : Int) := of_decide_eq_true (by assumption)
                    obtain ⟨ad238, e238, hx238_0⟩ := Kd.at_int (Kd.R_reads' HO_8.out).2.2 x11_18 p238 q238
                    cases e238
                    replace p238 := eq_true p238
                    replace q238 := eq_true q238
                    have p239 : 0 ≤ ((ji30) : Int) := of_decide_eq_true (by assumption)
                    have q239 : (ji30) < (x8_3.length : Int) := of_decide_eq_true (by assumption)
                    obtain ⟨ad239, e239, hx239_0⟩ := Kd.at_int (Kd.R_reads' HO_8.out).2.2 (ji30) p239 q239
                    obtain rfl : ad238 = ad239 := (by injection e239)
                    replace p239 := eq_true p239
                    replace q239 := eq_true q239
                    refine start_ (n := 10) (S := fun w' => w'.cell? (ad238.add (x11_18).toNat) = some (.int .i64 (rd x8_3 x11_18)) ∧ w'.cell? (ad238.add ((ji30)).toNat) = some (.int .i64 (rd x8_3 (ji30)))) (ds := []) (fl 10 0) (by kernel_rfl) rfl rfl ⟨hx238_0, hx239_0⟩ (fun hHeld => ?_); refine with_tabW impl_grid_regions.tab19 impl_grid_regions.bits19 (fun HT_ HW_ => ?_)
                    generalize wc.drew = w36 at HO_8 BK227 HB hx238_0 hx239_0 hHeld ⊢
                    refine zpu 0 (some 75) (fl 10 1) ?_
                    refine zpu 1 (some 76) (fl 10 3) ?_
                    refine zpu 2 (some 77) (fl 10 7) ?_
                    refine zpu 4 (some 79) (fl 10 23) ?_
                    refine zpu 5 (some 80) (fl 10 55) ?_
                    refine zpu 6 (some 81) (fl 10 119) ?_
                    refine ztk 3 (some 78) (fl 10 127) hHeld ?_
                    refine ztk 7 (some 82) (fl 10 255) hHeld ?_
                    refine zpu 8 (some 83) (fl 10 511) ?_
                    refine zpu 9 (some 13) (fl 10 1023) ?_
                    refine done_ (done_of HT_.out (by kernel_rfl)) ?_
                    have p34 : 0 ≤ (x11_18 : Int) := of_decide_eq_true (by assumption)
                    have q34 : (x11_18 : Int) < ((x8_3.length : Int) : Int) := of_decide_eq_true (by assumption)
                    obtain ⟨go34, co34, eo34, gb34, gl34, cl34, HG34⟩ := Kd.R_form HO_8.out (by omega)
                    (first | cases eo34 | (injection eo34 with ea_ en_ ec_; (first | subst ea_ | (injection ea_ with ea_; subst ea_)); subst ec_; clear en_))
                    have GB34 := Aside0.mk gb34
                    have GG34 := Aside0.mk HG34
                    clear gb34 gl34 HG34
                    (first | simp only [add_plain] at hx238_0 | skip)
                    (first | simp only [add_plain] at hx239_0 | skip)
                    obtain ⟨hx34_0, hf34_0⟩ := Kd.R_celln 0 HO_8.out (x11_18 : Int) p34 q34
                    replace p34 := eq_true p34
                    replace q34 := eq_true q34
                    obtain ⟨hy38_, hz38_⟩ := Kd.R_celln 0 HO_8.out (x11_18 : Int) (of_decide_eq_true (by assumption)) (of_decide_eq_true (by assumption))
                    have HP38 := Kd.R_putg HO_8.out (x11_18 : Int) ji33
                    try go_wp2_with (first | ((with_reducible refine gate_store (t := 3) (p := 90) rfl ?_); refine store_event (t := 3) (p := 90) (v := ?vo_w39) (w1 := (w36.setCell ⟨go34, (x11_18 : Int).toNat, none⟩ (.int .i64 ji33))) ?hg ?ho ?hn ?hr ?_; (case ho => rfl); (case hg => rfl); (case hn => rfl); (case hr => first | (go_simp; done) | (go_simp; rfl)); intro w39 hw; have hg : w36.grownBy w39 (some go34) := (by rw [hw]; exact HP38.2); have hp_ : Kd.R (Kd.int .i64) 3 w39 w.heap.size (fun _ => True) (.slice (some ⟨go34, 0, none⟩) x8_3.length co37) y240 := (by rw [hw, Ny240.out]; exact HP38.1); clear HP38; replace BK227 := Aside0.mk (blk_grown (g := gb227) (o := .cells #[.int .i64 a0_0, .int .i64 a0_1] 58 (0, 0)) (zK BK227) hg (Kd.R_ne HO_8.out BK227.out (by decide))); replace HO_8 := Aside0.mk (hp_); replace HB := Aside0.mk ((by rw [hw]; exact below_set (HB.out) GB34.out : Below w.heap.size w w39)); clear hg hw hp_; have p35 : 0 ≤ ((ji30) : Int) := of_decide_eq_true (by assumption); have q35 : ((ji30) : Int) < ((x8_3.length : Int) : Int) := of_decide_eq_true (by assumption); obtain ⟨hx35_0, hf35_0⟩ := Kd.R_celln 0 HO_8.out ((ji30) : Int) p35 (by have hl_ := (Kd.R_reads' HO_8.out).1; first | exact q35 | omega); replace p35 := eq_true p35; replace q35 := eq_true q35; obtain ⟨hy40_, hz40_⟩ := Kd.R_celln 0 HO_8.out ((ji30) : Int) (of_decide_eq_true (by assumption)) (by have hl_ := (Kd.R_reads' HO_8.out).1; have hq_ := of_eq_true q35; omega); have HP40 := Kd.R_putg HO_8.out ((ji30) : Int) ji33) | ((with_reducible refine gate_store (t := 3) (p := 91) rfl ?_); refine store_event (t := 3) (p := 91) (v := ?vo_w41) (w1 := (w39.setCell ⟨go34, ((ji30) : Int).toNat, none⟩ (.int .i64 ji33))) ?hg ?ho ?hn ?hr ?_; (case ho => rfl); (case hg => rfl); (case hn => rfl); (case hr => first | (go_simp; done) | (go_simp; rfl)); intro w41 hw; have hg : w39.grownBy w41 (some go34) := (by rw [hw]; exact HP40.2); have hp_ : Kd.R (Kd.int .i64) 3 w41 w.heap.size (fun _ => True) (.slice (some ⟨go34, 0, none⟩) x8_3.length co37) y241 := (by rw [hw, Ny241.out]; exact HP40.1); clear HP40; replace BK227 := Aside0.mk (blk_grown (g := gb227) (o := .cells #[.int .i64 a0_0, .int .i64 a0_1] 58 (0, 0)) (zK BK227) hg (Kd.R_ne HO_8.out BK227.out (by decide))); replace HO_8 := Aside0.mk (hp_); replace HB := Aside0.mk ((by rw [hw]; exact below_set (HB.out) GB34.out : Below w.heap.size w w41)); clear hg hw hp_))
                    first | go_roundg kj18 | ((try subst hji25); (try subst hji30); (try subst hji33); go_roundg kj18)
                    case measure => have := HK1.out; have := HK2.out; have := HK3.out; have := HJ18.out; omega
                    case rel => exact ⟨(y241), (wrap64 (x44_3 + 1)), zA, H', ⟨by have := HK1.out; have := HK2.out; have := HK3.out; have := HJ18.out; omega⟩, ⟨zR HO_8⟩, ⟨zK BK227⟩, ⟨zB⟩⟩
                   ·rw [if_neg c32] at H
                    exact absurd H (by simp)
                  ·rw [if_neg c31] at H
                   exact absurd H (by simp)
                 ·rw [if_neg c29] at H
                  exact absurd H (by simp)
                ·rw [if_neg c28] at H
                 exact absurd H (by simp)
               ·replace c27 := Bool.eq_false_iff.mpr c27
                subst c27
                have H1 : (if (mx x11_18 (wrap64 (a0_0 * a0_1))) = (wrap64 (a0_0 * a0_1)) then (impl_grid_regions.l2 kj18 a1 false (wrap64 (a0_0 * a0_1)) x8_3 (wrap64 ((wrap64 (a0_0 * a0_1)) + 1)) x37_2 (wrap64 (t234 + t235)) (wrap64 (x44_3 + 1)) a0_0 a0_1) else (if 0 ≤ x11_18 then (if x11_18 < (x8_3.length : Int) then (if 0 ≤ (wrap64 (a0_0 * a0_1)) then (if (wrap64 (a0_0 * a0_1)) < (x8_3.length : Int) then (impl_grid_regions.l2 kj18 a1 false (wrap64 (a0_0 * a0_1)) ((x8_3.set (x11_18 : Int).toNat (mn (rd x8_3 x11_18) (rd x8_3 (wrap64 (a0_0 * a0_1))))).set ((wrap64 (a0_0 * a0_1)) : Int).toNat (mn (rd x8_3 x11_18) (rd x8_3 (wrap64 (a0_0 * a0_1))))) (wrap64 ((wrap64 (a0_0 * a0_1)) + 1)) x37_2 (wrap64 (t234 + t235)) (wrap64 (x44_3 + 1)) a0_0 a0_1) else (none)) else (none)) else (none)) else (none))) = some r := by rw [if_neg (show ¬ (false = true) by decide)] at H; exact H
                clear H
                have H := H1
                clear H1
                obtain ⟨ji42, hji42⟩ : ∃ j_ : Int, (mx x11_18 (wrap64 (a0_0 * a0_1))) = j_ := ⟨_, rfl⟩
                replace H : (if (ji42) = (wrap64 (a0_0 * a0_1)) then (impl_grid_regions.l2 kj18 a1 false (wrap64 (a0_0 * a0_1)) x8_3 (wrap64 ((wrap64 (a0_0 * a0_1)) + 1)) x37_2 (wrap64 (t234 + t235)) (wrap64 (x44_3 + 1)) a0_0 a0_1) else (if 0 ≤ x11_18 then (if x11_18 < (x8_3.length : Int) then (if 0 ≤ (wrap64 (a0_0 * a0_1)) then (if (wrap64 (a0_0 * a0_1)) < (x8_3.length : Int) then (impl_grid_regions.l2 kj18 a1 false (wrap64 (a0_0 * a0_1)) ((x8_3.set (x11_18 : Int).toNat (mn (rd x8_3 x11_18) (rd x8_3 (wrap64 (a0_0 * a0_1))))).set ((wrap64 (a0_0 * a0_1)) : Int).toNat (mn (rd x8_3 x11_18) (rd x8_3 (wrap64 (a0_0 * a0_1))))) (wrap64 ((wrap64 (a0_0 * a0_1)) + 1)) x37_2 (wrap64 (t234 + t235)) (wrap64 (x44_3 + 1)) a0_0 a0_1) else (none)) else (none)) else (none)) else (none))) = some r := by first | (rw [hji42] at H; exact H) | (simp only [hji42] at H ⊢; exact H)
                have hji42_ : (if x11_18 < (wrap64 (a0_0 * a0_1)) then (wrap64 (a0_0 * a0_1)) else x11_18) = ji42 := hji42
                by_cases c43 : (ji42) = (wrap64 (a0_0 * a0_1))
                ·rw [if_pos c43] at H
                 have c43b0 : ((ji42) == (wrap64 (a0_0 * a0_1))) = true := beq_iff_eq.mpr c43
                 have c43b1 : ((ji42) != (wrap64 (a0_0 * a0_1))) = false := bne_eq_false_iff_eq.mpr c43
                 clear c43
                 have H' := Aside0.mk H
                 clear H
                 go_wp2
                 first | go_roundg kj18 | ((try subst hji25); (try subst hji30); (try subst hji33); (try subst hji42); go_roundg kj18)
                 case measure => have := HK1.out; have := HK2.out; have := HK3.out; have := HJ18.out; omega
                 case rel => exact ⟨(x8_3), (wrap64 (x44_3 + 1)), zA, H', ⟨by have := HK1.out; have := HK2.out; have := HK3.out; have := HJ18.out; omega⟩, ⟨zR HO_8⟩, ⟨zK BK227⟩, ⟨zB⟩⟩
                ·rw [if_neg c43] at H
                 have c43b0 : ((ji42) == (wrap64 (a0_0 * a0_1))) = false := beq_eq_false_iff_ne.mpr c43
                 have c43b1 : ((ji42) != (wrap64 (a0_0 * a0_1))) = true := bne_iff_ne.mpr c43
                 by_cases c44 : 0 ≤ x11_18
                 ·rw [if_pos c44] at H
                  have c44b0 : decide (0 ≤ x11_18) = true := decide_eq_true c44
                  clear c44
                  by_cases c45 : x11_18 < (x8_3.length : Int)
                  ·rw [if_pos c45] at H
                   have c45b0 : decide (x11_18 < (x8_3.length : Int)) = true := decide_eq_true c45
                   clear c45
                   obtain ⟨ji46, hji46⟩ : ∃ j_ : Int, (wrap64 (a0_0 * a0_1)) = j_ := ⟨_, rfl⟩
                   replace H : (if 0 ≤ (ji46) then (if (ji46) < (x8_3.length : Int) then (impl_grid_regions.l2 kj18 a1 false (ji46) ((x8_3.set (x11_18 : Int).toNat (mn (rd x8_3 x11_18) (rd x8_3 (ji46)))).set ((ji46) : Int).toNat (mn (rd x8_3 x11_18) (rd x8_3 (ji46)))) (wrap64 ((ji46) + 1)) x37_2 (wrap64 (t234 + t235)) (wrap64 (x44_3 + 1)) a0_0 a0_1) else (none)) else (none)) = some r := by first | (rw [hji46] at H; exact H) | (simp only [hji46] at H ⊢; exact H)
                   (try rw [hji46] at c8b0)
                   (try rw [hji46] at c11b0)
                   (try rw [hji46] at c43b0)
                   (try rw [hji46] at c43b1)
                   have hji46w : (IntKind.i64.wrap (a0_0 * a0_1)) = ji46 := (i64_w _).trans hji46
                   by_cases c47 : 0 ≤ (ji46)
                   ·rw [if_pos c47] at H
                    have c47b0 : decide (0 ≤ (ji46)) = true := decide_eq_true c47
                    clear c47
                    by_cases c48 : (ji46) < (x8_3.length : Int)
                    ·rw [if_pos c48] at H
                     have c48b0 : decide ((ji46) < (x8_3.length : Int)) = true := decide_eq_true c48
                     clear c48
                     obtain ⟨ji49, hji49⟩ : ∃ j_ : Int, (mn (rd x8_3 x11_18) (rd x8_3 (ji46))) = j_ := ⟨_, rfl⟩
                     replace H : (impl_grid_regions.l2 kj18 a1 false (ji46) ((x8_3.set (x11_18 : Int).toNat (ji49)).set ((ji46) : Int).toNat (ji49)) (wrap64 ((ji46) + 1)) x37_2 (wrap64 (t234 + t235)) (wrap64 (x44_3 + 1)) a0_0 a0_1) = some r := by first | (rw [hji49] at H; exact H) | (simp only [hji49] at H ⊢; exact H)
                     have hji49_ : (if (rd x8_3 (ji46)) < (rd x8_3 x11_18) then (rd x8_3 (ji46)) else (rd x8_3 x11_18)) = ji49 := hji49
                     obtain ⟨y244, hy244⟩ : ∃ y_ : List Int, y_ = (x8_3.set (x11_18 : Int).toNat (ji49)) := ⟨_, rfl⟩
                     replace H : (impl_grid_regions.l2 kj18 a1 false (ji46) (y244.set ((ji46) : Int).toNat (ji49)) (wrap64 ((ji46) + 1)) x37_2 (wrap64 (t234 + t235)) (wrap64 (x44_3 + 1)) a0_0 a0_1) = some r := by first | (rw [hy244]; with_reducible exact H) | (have H2_ := (Option.bind_some _ _).symm.trans H; rw [hy244]; with_reducible exact H2_) | (have H2_ := (Option.bind_some _ _).symm.trans H; with_reducible exact H2_) | with_reducible exact H | (rw [hy244]; exact H) | exact H
                     have Ny244 := Aside0.mk hy244
                     clear hy244
                     obtain ⟨y245, hy245⟩ : ∃ y_ : List Int, y_ = (y244.set ((ji46) : Int).toNat (ji49)) := ⟨_, rfl⟩
                     replace H : (impl_grid_regions.l2 kj18 a1 false (ji46) y245 (wrap64 ((ji46) + 1)) x37_2 (wrap64 (t234 + t235)) (wrap64 (x44_3 + 1)) a0_0 a0_1) = some r := by first | (rw [hy245]; with_reducible exact H) | (have H2_ := (Option.bind_some _ _).symm.trans H; rw [hy245]; with_reducible exact H2_) | (have H2_ := (Option.bind_some _ _).symm.trans H; with_reducible exact H2_) | with_reducible exact H | (rw [hy245]; exact H) | exact H
                     have Ny245 := Aside0.mk hy245
                     clear hy245
                     have H' := Aside0.mk H
                     clear H
                     try go_wp2
                     replace HO_8 := Aside0.mk (Kd.R_drew HO_8.out)
                     replace BK227 := Aside0.mk (blk_drew BK227.out)
                     replace HB := Aside0.mk (below_drew1 HB.out)
                     obtain ⟨Ao53, co53, eo53⟩ := Kd.R_slice HO_8.out
                     (first | subst eo53 | (injection eo53 with f1_ f2_ f3_; have f4_ := f1_.symm; have f5_ := f3_.symm; clear f1_ f2_ f3_; subst f4_; subst f5_))
                     have p242 : 0 ≤ (x11_18 : Int) := of_decide_eq_true (by assumption)
                     have q242 : x11_18 < (x8_3.length : Int) := of_decide_eq_true (by assumption)
                     obtain ⟨ad242, e242, hx242_0⟩ := Kd.at_int (Kd.R_reads' HO_8.out).2.2 x11_18 p242 q242
                     cases e242
                     replace p242 := eq_true p242
                     replace q242 := eq_true q242
                     have p243 : 0 ≤ ((ji46) : Int) := of_decide_eq_true (by assumption)
                     have q243 : (ji46) < (x8_3.length : Int) := of_decide_eq_true (by assumption)
                     obtain ⟨ad243, e243, hx243_0⟩ := Kd.at_int (Kd.R_reads' HO_8.out).2.2 (ji46) p243 q243
                     obtain rfl : ad242 = ad243 := (by injection e243)
                     replace p243 := eq_true p243
                     replace q243 := eq_true q243
                     refine start_ (n := 10) (S := fun w' => w'.cell? (ad242.add (x11_18).toNat) = some (.int .i64 (rd x8_3 x11_18)) ∧ w'.cell? (ad242.add ((ji46)).toNat) = some (.int .i64 (rd x8_3 (ji46)))) (ds := []) (fl 10 0) (by kernel_rfl) rfl rfl ⟨hx242_0, hx243_0⟩ (fun hHeld => ?_); refine with_tabW impl_grid_regions.tab19 impl_grid_regions.bits19 (fun HT_ HW_ => ?_)
                     generalize wc.drew = w52 at HO_8 BK227 HB hx242_0 hx243_0 hHeld ⊢
                     refine zpu 0 (some 75) (fl 10 1) ?_
                     refine zpu 1 (some 76) (fl 10 3) ?_
                     refine zpu 2 (some 77) (fl 10 7) ?_
                     refine zpu 4 (some 79) (fl 10 23) ?_
                     refine zpu 5 (some 80) (fl 10 55) ?_
                     refine zpu 6 (some 81) (fl 10 119) ?_
                     refine ztk 3 (some 78) (fl 10 127) hHeld ?_
                     refine ztk 7 (some 82) (fl 10 255) hHeld ?_
                     refine zpu 8 (some 83) (fl 10 511) ?_
                     refine zpu 9 (some 13) (fl 10 1023) ?_
                     refine done_ (done_of HT_.out (by kernel_rfl)) ?_
                     have p50 : 0 ≤ (x11_18 : Int) := of_decide_eq_true (by assumption)
                     have q50 : (x11_18 : Int) < ((x8_3.length : Int) : Int) := of_decide_eq_true (by assumption)
                     obtain ⟨go50, co50, eo50, gb50, gl50, cl50, HG50⟩ := Kd.R_form HO_8.out (by omega)
                     (first | cases eo50 | (injection eo50 with ea_ en_ ec_; (first | subst ea_ | (injection ea_ with ea_; subst ea_)); subst ec_; clear en_))
                     have GB50 := Aside0.mk gb50
                     have GG50 := Aside0.mk HG50
                     clear gb50 gl50 HG50
                     (first | simp only [add_plain] at hx242_0 | skip)
                     (first | simp only [add_plain] at hx243_0 | skip)
                     obtain ⟨hx50_0, hf50_0⟩ := Kd.R_celln 0 HO_8.out (x11_18 : Int) p50 q50
                     replace p50 := eq_true p50
                     replace q50 := eq_true q50
                     obtain ⟨hy54_, hz54_⟩ := Kd.R_celln 0 HO_8.out (x11_18 : Int) (of_decide_eq_true (by assumption)) (of_decide_eq_true (by assumption))
                     have HP54 := Kd.R_putg HO_8.out (x11_18 : Int) ji49
                     try go_wp2_with (first | ((with_reducible refine gate_store (t := 3) (p := 90) rfl ?_); refine store_event (t := 3) (p := 90) (v := ?vo_w55) (w1 := (w52.setCell ⟨go50, (x11_18 : Int).toNat, none⟩ (.int .i64 ji49))) ?hg ?ho ?hn ?hr ?_; (case ho => rfl); (case hg => rfl); (case hn => rfl); (case hr => first | (go_simp; done) | (go_simp; rfl)); intro w55 hw; have hg : w52.grownBy w55 (some go50) := (by rw [hw]; exact HP54.2); have hp_ : Kd.R (Kd.int .i64) 3 w55 w.heap.size (fun _ => True) (.slice (some ⟨go50, 0, none⟩) x8_3.length co53) y244 := (by rw [hw, Ny244.out]; exact HP54.1); clear HP54; replace BK227 := Aside0.mk (blk_grown (g := gb227) (o := .cells #[.int .i64 a0_0, .int .i64 a0_1] 58 (0, 0)) (zK BK227) hg (Kd.R_ne HO_8.out BK227.out (by decide))); replace HO_8 := Aside0.mk (hp_); replace HB := Aside0.mk ((by rw [hw]; exact below_set (HB.out) GB50.out : Below w.heap.size w w55)); clear hg hw hp_; have p51 : 0 ≤ ((ji46) : Int) := of_decide_eq_true (by assumption); have q51 : ((ji46) : Int) < ((x8_3.length : Int) : Int) := of_decide_eq_true (by assumption); obtain ⟨hx51_0, hf51_0⟩ := Kd.R_celln 0 HO_8.out ((ji46) : Int) p51 (by have hl_ := (Kd.R_reads' HO_8.out).1; first | exact q51 | omega); replace p51 := eq_true p51; replace q51 := eq_true q51; obtain ⟨hy56_, hz56_⟩ := Kd.R_celln 0 HO_8.out ((ji46) : Int) (of_decide_eq_true (by assumption)) (by have hl_ := (Kd.R_reads' HO_8.out).1; have hq_ := of_eq_true q51; omega); have HP56 := Kd.R_putg HO_8.out ((ji46) : Int) ji49) | ((with_reducible refine gate_store (t := 3) (p := 91) rfl ?_); refine store_event (t := 3) (p := 91) (v := ?vo_w57) (w1 := (w55.setCell ⟨go50, ((ji46) : Int).toNat, none⟩ (.int .i64 ji49))) ?hg ?ho ?hn ?hr ?_; (case ho => rfl); (case hg => rfl); (case hn => rfl); (case hr => first | (go_simp; done) | (go_simp; rfl)); intro w57 hw; have hg : w55.grownBy w57 (some go50) := (by rw [hw]; exact HP56.2); have hp_ : Kd.R (Kd.int .i64) 3 w57 w.heap.size (fun _ => True) (.slice (some ⟨go50, 0, none⟩) x8_3.length co53) y245 := (by rw [hw, Ny245.out]; exact HP56.1); clear HP56; replace BK227 := Aside0.mk (blk_grown (g := gb227) (o := .cells #[.int .i64 a0_0, .int .i64 a0_1] 58 (0, 0)) (zK BK227) hg (Kd.R_ne HO_8.out BK227.out (by decide))); replace HO_8 := Aside0.mk (hp_); replace HB := Aside0.mk ((by rw [hw]; exact below_set (HB.out) GB50.out : Below w.heap.size w w57)); clear hg hw hp_))
                     first | go_roundg kj18 | ((try subst hji25); (try subst hji30); (try subst hji33); (try subst hji42); (try subst hji46); (try subst hji49); go_roundg kj18)
                     case measure => have := HK1.out; have := HK2.out; have := HK3.out; have := HJ18.out; omega
                     case rel => exact ⟨(y245), (wrap64 (x44_3 + 1)), zA, H', ⟨by have := HK1.out; have := HK2.out; have := HK3.out; have := HJ18.out; omega⟩, ⟨zR HO_8⟩, ⟨zK BK227⟩, ⟨zB⟩⟩
                    ·rw [if_neg c48] at H
                     exact absurd H (by simp)
                   ·rw [if_neg c47] at H
                    exact absurd H (by simp)
                  ·rw [if_neg c45] at H
                   exact absurd H (by simp)
                 ·rw [if_neg c44] at H
                  exact absurd H (by simp)
             ·rw [if_neg c24] at H
              exact absurd H (by simp)
            ·rw [if_neg c23] at H
             have c23b0 : decide (t237 < 0) = false := decide_eq_false c23
             clear c23
             by_cases c58 : 0 ≤ x44_3
             ·rw [if_pos c58] at H
              have c58b0 := eq_true c58
              have c58b1 : decide (0 ≤ x44_3) = true := decide_eq_true c58
              clear c58
              obtain ⟨ji59, hji59⟩ : ∃ j_ : Int, (shr .u64 a1 x44_3) = j_ := ⟨_, rfl⟩
              replace H : (if (Go.bits .and .u64 (ji59) 1) = 1 then (impl_grid_regions.l2 kj18 a1 a2 (wrap64 (a0_0 * a0_1)) x8_3 (wrap64 ((wrap64 (a0_0 * a0_1)) + 1)) x37_2 (wrap64 (t234 + t235)) (wrap64 (x44_3 + 1)) a0_0 a0_1) else (if a2 = true then (if 0 ≤ x11_18 then (if x11_18 < (x8_3.length : Int) then (if 0 ≤ t237 then (if t237 < (x8_3.length : Int) then (impl_grid_regions.l2 kj18 a1 a2 (wrap64 (a0_0 * a0_1)) ((x8_3.set (x11_18 : Int).toNat (mn (rd x8_3 x11_18) (rd x8_3 t237))).set (t237 : Int).toNat (mn (rd x8_3 x11_18) (rd x8_3 t237))) (wrap64 ((wrap64 (a0_0 * a0_1)) + 1)) x37_2 (wrap64 (t234 + t235)) (wrap64 (x44_3 + 1)) a0_0 a0_1) else (none)) else (none)) else (none)) else (none)) else (if (mx x11_18 t237) = (wrap64 (a0_0 * a0_1)) then (impl_grid_regions.l2 kj18 a1 a2 (wrap64 (a0_0 * a0_1)) x8_3 (wrap64 ((wrap64 (a0_0 * a0_1)) + 1)) x37_2 (wrap64 (t234 + t235)) (wrap64 (x44_3 + 1)) a0_0 a0_1) else (if 0 ≤ x11_18 then (if x11_18 < (x8_3.length : Int) then (if 0 ≤ t237 then (if t237 < (x8_3.length : Int) then (impl_grid_regions.l2 kj18 a1 a2 (wrap64 (a0_0 * a0_1)) ((x8_3.set (x11_18 : Int).toNat (mn (rd x8_3 x11_18) (rd x8_3 t237))).set (t237 : Int).toNat (mn (rd x8_3 x11_18) (rd x8_3 t237))) (wrap64 ((wrap64 (a0_0 * a0_1)) + 1)) x37_2 (wrap64 (t234 + t235)) (wrap64 (x44_3 + 1)) a0_0 a0_1) else (none)) else (none)) else (none)) else (none))))) = some r := by first | (rw [hji59] at H; exact H) | (simp only [hji59] at H ⊢; exact H)
              have hji59_ : (a1 / 2 ^ min x44_3.toNat 64) = ji59 := hji59
              have hji59z : x44_3 ≤ 64 → (a1 / 2 ^ x44_3.toNat) = ji59 := shr_small hji59
              by_cases c60 : (Go.bits .and .u64 (ji59) 1) = 1
              ·rw [if_pos c60] at H
               have c60b0 : ((Go.bits .and .u64 (ji59) 1) == 1) = true := beq_iff_eq.mpr c60
               have c60b1 : ((Go.bits .and .u64 (ji59) 1) != 1) = false := bne_eq_false_iff_eq.mpr c60
               clear c60
               have H' := Aside0.mk H
               clear H
               go_wp2
               first | go_roundg kj18 | ((try subst hji25); (try subst hji30); (try subst hji33); (try subst hji42); (try subst hji46); (try subst hji49); (try subst hji59); go_roundg kj18)
               case measure => have := HK1.out; have := HK2.out; have := HK3.out; have := HJ18.out; omega
               case rel => exact ⟨(x8_3), (wrap64 (x44_3 + 1)), zA, H', ⟨by have := HK1.out; have := HK2.out; have := HK3.out; have := HJ18.out; omega⟩, ⟨zR HO_8⟩, ⟨zK BK227⟩, ⟨zB⟩⟩
              ·rw [if_neg c60] at H
               have c60b0 : ((Go.bits .and .u64 (ji59) 1) == 1) = false := beq_eq_false_iff_ne.mpr c60
               have c60b1 : ((Go.bits .and .u64 (ji59) 1) != 1) = true := bne_iff_ne.mpr c60
               by_cases c61 : a2 = true
               ·subst c61
                have H1 : (if 0 ≤ x11_18 then (if x11_18 < (x8_3.length : Int) then (if 0 ≤ t237 then (if t237 < (x8_3.length : Int) then (impl_grid_regions.l2 kj18 a1 true (wrap64 (a0_0 * a0_1)) ((x8_3.set (x11_18 : Int).toNat (mn (rd x8_3 x11_18) (rd x8_3 t237))).set (t237 : Int).toNat (mn (rd x8_3 x11_18) (rd x8_3 t237))) (wrap64 ((wrap64 (a0_0 * a0_1)) + 1)) x37_2 (wrap64 (t234 + t235)) (wrap64 (x44_3 + 1)) a0_0 a0_1) else (none)) else (none)) else (none)) else (none)) = some r := by rw [if_pos rfl] at H; exact H
                clear H
                have H := H1
                clear H1
                by_cases c62 : 0 ≤ x11_18
                ·rw [if_pos c62] at H
                 have c62b0 : decide (0 ≤ x11_18) = true := decide_eq_true c62
                 clear c62
                 by_cases c63 : x11_18 < (x8_3.length : Int)
                 ·rw [if_pos c63] at H
                  have c63b0 : decide (x11_18 < (x8_3.length : Int)) = true := decide_eq_true c63
                  clear c63
                  by_cases c64 : 0 ≤ t237
                  ·rw [if_pos c64] at H
                   have c64b0 : decide (0 ≤ t237) = true := decide_eq_true c64
                   clear c64
                   by_cases c65 : t237 < (x8_3.length : Int)
                   ·rw [if_pos c65] at H
                    have c65b0 : decide (t237 < (x8_3.length : Int)) = true := decide_eq_true c65
                    clear c65
                    obtain ⟨ji66, hji66⟩ : ∃ j_ : Int, (mn (rd x8_3 x11_18) (rd x8_3 t237)) = j_ := ⟨_, rfl⟩
                    replace H : (impl_grid_regions.l2 kj18 a1 true (wrap64 (a0_0 * a0_1)) ((x8_3.set (x11_18 : Int).toNat (ji66)).set (t237 : Int).toNat (ji66)) (wrap64 ((wrap64 (a0_0 * a0_1)) + 1)) x37_2 (wrap64 (t234 + t235)) (wrap64 (x44_3 + 1)) a0_0 a0_1) = some r := by first | (rw [hji66] at H; exact H) | (simp only [hji66] at H ⊢; exact H)
                    have hji66_ : (if (rd x8_3 t237) < (rd x8_3 x11_18) then (rd x8_3 t237) else (rd x8_3 x11_18)) = ji66 := hji66
                    obtain ⟨y248, hy248⟩ : ∃ y_ : List Int, y_ = (x8_3.set (x11_18 : Int).toNat (ji66)) := ⟨_, rfl⟩
                    replace H : (impl_grid_regions.l2 kj18 a1 true (wrap64 (a0_0 * a0_1)) (y248.set (t237 : Int).toNat (ji66)) (wrap64 ((wrap64 (a0_0 * a0_1)) + 1)) x37_2 (wrap64 (t234 + t235)) (wrap64 (x44_3 + 1)) a0_0 a0_1) = some r := by first | (rw [hy248]; with_reducible exact H) | (have H2_ := (Option.bind_some _ _).symm.trans H; rw [hy248]; with_reducible exact H2_) | (have H2_ := (Option.bind_some _ _).symm.trans H; with_reducible exact H2_) | with_reducible exact H | (rw [hy248]; exact H) | exact H
                    have Ny248 := Aside0.mk hy248
                    clear hy248
                    obtain ⟨y249, hy249⟩ : ∃ y_ : List Int, y_ = (y248.set (t237 : Int).toNat (ji66)) := ⟨_, rfl⟩
                    replace H : (impl_grid_regions.l2 kj18 a1 true (wrap64 (a0_0 * a0_1)) y249 (wrap64 ((wrap64 (a0_0 * a0_1)) + 1)) x37_2 (wrap64 (t234 + t235)) (wrap64 (x44_3 + 1)) a0_0 a0_1) = some r := by first | (rw [hy249]; with_reducible exact H) | (have H2_ := (Option.bind_some _ _).symm.trans H; rw [hy249]; with_reducible exact H2_) | (have H2_ := (Option.bind_some _ _).symm.trans H; with_reducible exact H2_) | with_reducible exact H | (rw [hy249]; exact H) | exact H
                    have Ny249 := Aside0.mk hy249
                    clear hy249
                    have H' := Aside0.mk H
                    clear H
                    try go_wp2
                    replace HO_8 := Aside0.mk (Kd.R_drew HO_8.out)
                    replace BK227 := Aside0.mk (blk_drew BK227.out)
                    replace HB := Aside0.mk (below_drew1 HB.out)
                    obtain ⟨Ao70, co70, eo70⟩ := Kd.R_slice HO_8.out
                    (first | subst eo70 | (injection eo70 with f1_ f2_ f3_; have f4_ := f1_.symm; have f5_ := f3_.symm; clear f1_ f2_ f3_; subst f4_; subst f5_))
                    have p246 : 0 ≤ (x11_18 : Int) := of_decide_eq_true (by assumption)
                    have q246 : x11_18 < (x8_3.length : Int) := of_decide_eq_true (by assumption)
                    obtain ⟨ad246, e246, hx246_0⟩ := Kd.at_int (Kd.R_reads' HO_8.out).2.2 x11_18 p246 q246
                    cases e246
                    replace p246 := eq_true p246
                    replace q246 := eq_true q246
                    have p247 : 0 ≤ (t237 : Int) := of_decide_eq_true (by assumption)
                    have q247 : t237 < (x8_3.length : Int) := of_decide_eq_true (by assumption)
                    obtain ⟨ad247, e247, hx247_0⟩ := Kd.at_int (Kd.R_reads' HO_8.out).2.2 t237 p247 q247
                    obtain rfl : ad246 = ad247 := (by injection e247)
                    replace p247 := eq_true p247
                    replace q247 := eq_true q247
                    refine start_ (n := 10) (S := fun w' => w'.cell? (ad246.add (x11_18).toNat) = some (.int .i64 (rd x8_3 x11_18)) ∧ w'.cell? (ad246.add (t237).toNat) = some (.int .i64 (rd x8_3 t237))) (ds := []) (fl 10 0) (by kernel_rfl) rfl rfl ⟨hx246_0, hx247_0⟩ (fun hHeld => ?_); refine with_tabW impl_grid_regions.tab19 impl_grid_regions.bits19 (fun HT_ HW_ => ?_)
                    generalize wc.drew = w69 at HO_8 BK227 HB hx246_0 hx247_0 hHeld ⊢
                    refine zpu 0 (some 75) (fl 10 1) ?_
                    refine zpu 1 (some 76) (fl 10 3) ?_
                    refine zpu 2 (some 77) (fl 10 7) ?_
                    refine zpu 4 (some 79) (fl 10 23) ?_
                    refine zpu 5 (some 80) (fl 10 55) ?_
                    refine zpu 6 (some 81) (fl 10 119) ?_
                    refine ztk 3 (some 78) (fl 10 127) hHeld ?_
                    refine ztk 7 (some 82) (fl 10 255) hHeld ?_
                    refine zpu 8 (some 83) (fl 10 511) ?_
                    refine zpu 9 (some 13) (fl 10 1023) ?_
                    refine done_ (done_of HT_.out (by kernel_rfl)) ?_
                    have p67 : 0 ≤ (x11_18 : Int) := of_decide_eq_true (by assumption)
                    have q67 : (x11_18 : Int) < ((x8_3.length : Int) : Int) := of_decide_eq_true (by assumption)
                    obtain ⟨go67, co67, eo67, gb67, gl67, cl67, HG67⟩ := Kd.R_form HO_8.out (by omega)
                    (first | cases eo67 | (injection eo67 with ea_ en_ ec_; (first | subst ea_ | (injection ea_ with ea_; subst ea_)); subst ec_; clear en_))
                    have GB67 := Aside0.mk gb67
                    have GG67 := Aside0.mk HG67
                    clear gb67 gl67 HG67
                    (first | simp only [add_plain] at hx246_0 | skip)
                    (first | simp only [add_plain] at hx247_0 | skip)
                    obtain ⟨hx67_0, hf67_0⟩ := Kd.R_celln 0 HO_8.out (x11_18 : Int) p67 q67
                    replace p67 := eq_true p67
                    replace q67 := eq_true q67
                    obtain ⟨hy71_, hz71_⟩ := Kd.R_celln 0 HO_8.out (x11_18 : Int) (of_decide_eq_true (by assumption)) (of_decide_eq_true (by assumption))
                    have HP71 := Kd.R_putg HO_8.out (x11_18 : Int) ji66
                    try go_wp2_with (first | ((with_reducible refine gate_store (t := 3) (p := 90) rfl ?_); refine store_event (t := 3) (p := 90) (v := ?vo_w72) (w1 := (w69.setCell ⟨go67, (x11_18 : Int).toNat, none⟩ (.int .i64 ji66))) ?hg ?ho ?hn ?hr ?_; (case ho => rfl); (case hg => rfl); (case hn => rfl); (case hr => first | (go_simp; done) | (go_simp; rfl)); intro w72 hw; have hg : w69.grownBy w72 (some go67) := (by rw [hw]; exact HP71.2); have hp_ : Kd.R (Kd.int .i64) 3 w72 w.heap.size (fun _ => True) (.slice (some ⟨go67, 0, none⟩) x8_3.length co70) y248 := (by rw [hw, Ny248.out]; exact HP71.1); clear HP71; replace BK227 := Aside0.mk (blk_grown (g := gb227) (o := .cells #[.int .i64 a0_0, .int .i64 a0_1] 58 (0, 0)) (zK BK227) hg (Kd.R_ne HO_8.out BK227.out (by decide))); replace HO_8 := Aside0.mk (hp_); replace HB := Aside0.mk ((by rw [hw]; exact below_set (HB.out) GB67.out : Below w.heap.size w w72)); clear hg hw hp_; have p68 : 0 ≤ (t237 : Int) := of_decide_eq_true (by assumption); have q68 : (t237 : Int) < ((x8_3.length : Int) : Int) := of_decide_eq_true (by assumption); obtain ⟨hx68_0, hf68_0⟩ := Kd.R_celln 0 HO_8.out (t237 : Int) p68 q68; replace p68 := eq_true p68; replace q68 := eq_true q68; obtain ⟨hy73_, hz73_⟩ := Kd.R_celln 0 HO_8.out (t237 : Int) (of_decide_eq_true (by assumption)) (of_decide_eq_true (by assumption)); have HP73 := Kd.R_putg HO_8.out (t237 : Int) ji66) | ((with_reducible refine gate_store (t := 3) (p := 91) rfl ?_); refine store_event (t := 3) (p := 91) (v := ?vo_w74) (w1 := (w72.setCell ⟨go67, (t237 : Int).toNat, none⟩ (.int .i64 ji66))) ?hg ?ho ?hn ?hr ?_; (case ho => rfl); (case hg => rfl); (case hn => rfl); (case hr => first | (go_simp; done) | (go_simp; rfl)); intro w74 hw; have hg : w72.grownBy w74 (some go67) := (by rw [hw]; exact HP73.2); have hp_ : Kd.R (Kd.int .i64) 3 w74 w.heap.size (fun _ => True) (.slice (some ⟨go67, 0, none⟩) x8_3.length co70) y249 := (by rw [hw, Ny249.out]; exact HP73.1); clear HP73; replace BK227 := Aside0.mk (blk_grown (g := gb227) (o := .cells #[.int .i64 a0_0, .int .i64 a0_1] 58 (0, 0)) (zK BK227) hg (Kd.R_ne HO_8.out BK227.out (by decide))); replace HO_8 := Aside0.mk (hp_); replace HB := Aside0.mk ((by rw [hw]; exact below_set (HB.out) GB67.out : Below w.heap.size w w74)); clear hg hw hp_))
                    first | go_roundg kj18 | ((try subst hji25); (try subst hji30); (try subst hji33); (try subst hji42); (try subst hji46); (try subst hji49); (try subst hji59); (try subst hji66); go_roundg kj18)
                    case measure => have := HK1.out; have := HK2.out; have := HK3.out; have := HJ18.out; omega
                    case rel => exact ⟨(y249), (wrap64 (x44_3 + 1)), zA, H', ⟨by have := HK1.out; have := HK2.out; have := HK3.out; have := HJ18.out; omega⟩, ⟨zR HO_8⟩, ⟨zK BK227⟩, ⟨zB⟩⟩
                   ·rw [if_neg c65] at H
                    exact absurd H (by simp)
                  ·rw [if_neg c64] at H
                   exact absurd H (by simp)
                 ·rw [if_neg c63] at H
                  exact absurd H (by simp)
                ·rw [if_neg c62] at H
                 exact absurd H (by simp)
               ·replace c61 := Bool.eq_false_iff.mpr c61
                subst c61
                have H1 : (if (mx x11_18 t237) = (wrap64 (a0_0 * a0_1)) then (impl_grid_regions.l2 kj18 a1 false (wrap64 (a0_0 * a0_1)) x8_3 (wrap64 ((wrap64 (a0_0 * a0_1)) + 1)) x37_2 (wrap64 (t234 + t235)) (wrap64 (x44_3 + 1)) a0_0 a0_1) else (if 0 ≤ x11_18 then (if x11_18 < (x8_3.length : Int) then (if 0 ≤ t237 then (if t237 < (x8_3.length : Int) then (impl_grid_regions.l2 kj18 a1 false (wrap64 (a0_0 * a0_1)) ((x8_3.set (x11_18 : Int).toNat (mn (rd x8_3 x11_18) (rd x8_3 t237))).set (t237 : Int).toNat (mn (rd x8_3 x11_18) (rd x8_3 t237))) (wrap64 ((wrap64 (a0_0 * a0_1)) + 1)) x37_2 (wrap64 (t234 + t235)) (wrap64 (x44_3 + 1)) a0_0 a0_1) else (none)) else (none)) else (none)) else (none))) = some r := by rw [if_neg (show ¬ (false = true) by decide)] at H; exact H
                clear H
                have H := H1
                clear H1
                obtain ⟨ji75, hji75⟩ : ∃ j_ : Int, (mx x11_18 t237) = j_ := ⟨_, rfl⟩
                replace H : (if (ji75) = (wrap64 (a0_0 * a0_1)) then (impl_grid_regions.l2 kj18 a1 false (wrap64 (a0_0 * a0_1)) x8_3 (wrap64 ((wrap64 (a0_0 * a0_1)) + 1)) x37_2 (wrap64 (t234 + t235)) (wrap64 (x44_3 + 1)) a0_0 a0_1) else (if 0 ≤ x11_18 then (if x11_18 < (x8_3.length : Int) then (if 0 ≤ t237 then (if t237 < (x8_3.length : Int) then (impl_grid_regions.l2 kj18 a1 false (wrap64 (a0_0 * a0_1)) ((x8_3.set (x11_18 : Int).toNat (mn (rd x8_3 x11_18) (rd x8_3 t237))).set (t237 : Int).toNat (mn (rd x8_3 x11_18) (rd x8_3 t237))) (wrap64 ((wrap64 (a0_0 * a0_1)) + 1)) x37_2 (wrap64 (t234 + t235)) (wrap64 (x44_3 + 1)) a0_0 a0_1) else (none)) else (none)) else (none)) else (none))) = some r := by first | (rw [hji75] at H; exact H) | (simp only [hji75] at H ⊢; exact H)
                have hji75_ : (if x11_18 < t237 then t237 else x11_18) = ji75 := hji75
                by_cases c76 : (ji75) = (wrap64 (a0_0 * a0_1))
                ·rw [if_pos c76] at H
                 have c76b0 : ((ji75) == (wrap64 (a0_0 * a0_1))) = true := beq_iff_eq.mpr c76
                 have c76b1 : ((ji75) != (wrap64 (a0_0 * a0_1))) = false := bne_eq_false_iff_eq.mpr c76
                 clear c76
                 have H' := Aside0.mk H
                 clear H
                 go_wp2
                 first | go_roundg kj18 | ((try subst hji25); (try subst hji30); (try subst hji33); (try subst hji42); (try subst hji46); (try subst hji49); (try subst hji59); (try subst hji66); (try subst hji75); go_roundg kj18)
                 case measure => have := HK1.out; have := HK2.out; have := HK3.out; have := HJ18.out; omega
                 case rel => exact ⟨(x8_3), (wrap64 (x44_3 + 1)), zA, H', ⟨by have := HK1.out; have := HK2.out; have := HK3.out; have := HJ18.out; omega⟩, ⟨zR HO_8⟩, ⟨zK BK227⟩, ⟨zB⟩⟩
                ·rw [if_neg c76] at H
                 have c76b0 : ((ji75) == (wrap64 (a0_0 * a0_1))) = false := beq_eq_false_iff_ne.mpr c76
                 have c76b1 : ((ji75) != (wrap64 (a0_0 * a0_1))) = true := bne_iff_ne.mpr c76
                 by_cases c77 : 0 ≤ x11_18
                 ·rw [if_pos c77] at H
                  have c77b0 : decide (0 ≤ x11_18) = true := decide_eq_true c77
                  clear c77
                  by_cases c78 : x11_18 < (x8_3.length : Int)
                  ·rw [if_pos c78] at H
                   have c78b0 : decide (x11_18 < (x8_3.length : Int)) = true := decide_eq_true c78
                   clear c78
                   by_cases c79 : 0 ≤ t237
                   ·rw [if_pos c79] at H
                    have c79b0 : decide (0 ≤ t237) = true := decide_eq_true c79
                    clear c79
                    by_cases c80 : t237 < (x8_3.length : Int)
                    ·rw [if_pos c80] at H
                     have c80b0 : decide (t237 < (x8_3.length : Int)) = true := decide_eq_true c80
                     clear c80
                     obtain ⟨ji81, hji81⟩ : ∃ j_ : Int, (mn (rd x8_3 x11_18) (rd x8_3 t237)) = j_ := ⟨_, rfl⟩
                     replace H : (impl_grid_regions.l2 kj18 a1 false (wrap64 (a0_0 * a0_1)) ((x8_3.set (x11_18 : Int).toNat (ji81)).set (t237 : Int).toNat (ji81)) (wrap64 ((wrap64 (a0_0 * a0_1)) + 1)) x37_2 (wrap64 (t234 + t235)) (wrap64 (x44_3 + 1)) a0_0 a0_1) = some r := by first | (rw [hji81] at H; exact H) | (simp only [hji81] at H ⊢; exact H)
                     have hji81_ : (if (rd x8_3 t237) < (rd x8_3 x11_18) then (rd x8_3 t237) else (rd x8_3 x11_18)) = ji81 := hji81
                     obtain ⟨y252, hy252⟩ : ∃ y_ : List Int, y_ = (x8_3.set (x11_18 : Int).toNat (ji81)) := ⟨_, rfl⟩
                     replace H : (impl_grid_regions.l2 kj18 a1 false (wrap64 (a0_0 * a0_1)) (y252.set (t237 : Int).toNat (ji81)) (wrap64 ((wrap64 (a0_0 * a0_1)) + 1)) x37_2 (wrap64 (t234 + t235)) (wrap64 (x44_3 + 1)) a0_0 a0_1) = some r := by first | (rw [hy252]; with_reducible exact H) | (have H2_ := (Option.bind_some _ _).symm.trans H; rw [hy252]; with_reducible exact H2_) | (have H2_ := (Option.bind_some _ _).symm.trans H; with_reducible exact H2_) | with_reducible exact H | (rw [hy252]; exact H) | exact H
                     have Ny252 := Aside0.mk hy252
                     clear hy252
                     obtain ⟨y253, hy253⟩ : ∃ y_ : List Int, y_ = (y252.set (t237 : Int).toNat (ji81)) := ⟨_, rfl⟩
                     replace H : (impl_grid_regions.l2 kj18 a1 false (wrap64 (a0_0 * a0_1)) y253 (wrap64 ((wrap64 (a0_0 * a0_1)) + 1)) x37_2 (wrap64 (t234 + t235)) (wrap64 (x44_3 + 1)) a0_0 a0_1) = some r := by first | (rw [hy253]; with_reducible exact H) | (have H2_ := (Option.bind_some _ _).symm.trans H; rw [hy253]; with_reducible exact H2_) | (have H2_ := (Option.bind_some _ _).symm.trans H; with_reducible exact H2_) | with_reducible exact H | (rw [hy253]; exact H) | exact H
                     have Ny253 := Aside0.mk hy253
                     clear hy253
                     have H' := Aside0.mk H
                     clear H
                     try go_wp2
                     replace HO_8 := Aside0.mk (Kd.R_drew HO_8.out)
                     replace BK227 := Aside0.mk (blk_drew BK227.out)
                     replace HB := Aside0.mk (below_drew1 HB.out)
                     obtain ⟨Ao85, co85, eo85⟩ := Kd.R_slice HO_8.out
                     (first | subst eo85 | (injection eo85 with f1_ f2_ f3_; have f4_ := f1_.symm; have f5_ := f3_.symm; clear f1_ f2_ f3_; subst f4_; subst f5_))
                     have p250 : 0 ≤ (x11_18 : Int) := of_decide_eq_true (by assumption)
                     have q250 : x11_18 < (x8_3.length : Int) := of_decide_eq_true (by assumption)
                     obtain ⟨ad250, e250, hx250_0⟩ := Kd.at_int (Kd.R_reads' HO_8.out).2.2 x11_18 p250 q250
                     cases e250
                     replace p250 := eq_true p250
                     replace q250 := eq_true q250
                     have p251 : 0 ≤ (t237 : Int) := of_decide_eq_true (by assumption)
                     have q251 : t237 < (x8_3.length : Int) := of_decide_eq_true (by assumption)
                     obtain ⟨ad251, e251, hx251_0⟩ := Kd.at_int (Kd.R_reads' HO_8.out).2.2 t237 p251 q251
                     obtain rfl : ad250 = ad251 := (by injection e251)
                     replace p251 := eq_true p251
                     replace q251 := eq_true q251
                     refine start_ (n := 10) (S := fun w' => w'.cell? (ad250.add (x11_18).toNat) = some (.int .i64 (rd x8_3 x11_18)) ∧ w'.cell? (ad250.add (t237).toNat) = some (.int .i64 (rd x8_3 t237))) (ds := []) (fl 10 0) (by kernel_rfl) rfl rfl ⟨hx250_0, hx251_0⟩ (fun hHeld => ?_); refine with_tabW impl_grid_regions.tab19 impl_grid_regions.bits19 (fun HT_ HW_ => ?_)
                     generalize wc.drew = w84 at HO_8 BK227 HB hx250_0 hx251_0 hHeld ⊢
                     refine zpu 0 (some 75) (fl 10 1) ?_
                     refine zpu 1 (some 76) (fl 10 3) ?_
                     refine zpu 2 (some 77) (fl 10 7) ?_
                     refine zpu 4 (some 79) (fl 10 23) ?_
                     refine zpu 5 (some 80) (fl 10 55) ?_
                     refine zpu 6 (some 81) (fl 10 119) ?_
                     refine ztk 3 (some 78) (fl 10 127) hHeld ?_
                     refine ztk 7 (some 82) (fl 10 255) hHeld ?_
                     refine zpu 8 (some 83) (fl 10 511) ?_
                     refine zpu 9 (some 13) (fl 10 1023) ?_
                     refine done_ (done_of HT_.out (by kernel_rfl)) ?_
                     have p82 : 0 ≤ (x11_18 : Int) := of_decide_eq_true (by assumption)
                     have q82 : (x11_18 : Int) < ((x8_3.length : Int) : Int) := of_decide_eq_true (by assumption)
                     obtain ⟨go82, co82, eo82, gb82, gl82, cl82, HG82⟩ := Kd.R_form HO_8.out (by omega)
                     (first | cases eo82 | (injection eo82 with ea_ en_ ec_; (first | subst ea_ | (injection ea_ with ea_; subst ea_)); subst ec_; clear en_))
                     have GB82 := Aside0.mk gb82
                     have GG82 := Aside0.mk HG82
                     clear gb82 gl82 HG82
                     (first | simp only [add_plain] at hx250_0 | skip)
                     (first | simp only [add_plain] at hx251_0 | skip)
                     obtain ⟨hx82_0, hf82_0⟩ := Kd.R_celln 0 HO_8.out (x11_18 : Int) p82 q82
                     replace p82 := eq_true p82
                     replace q82 := eq_true q82
                     obtain ⟨hy86_, hz86_⟩ := Kd.R_celln 0 HO_8.out (x11_18 : Int) (of_decide_eq_true (by assumption)) (of_decide_eq_true (by assumption))
                     have HP86 := Kd.R_putg HO_8.out (x11_18 : Int) ji81
                     try go_wp2_with (first | ((with_reducible refine gate_store (t := 3) (p := 90) rfl ?_); refine store_event (t := 3) (p := 90) (v := ?vo_w87) (w1 := (w84.setCell ⟨go82, (x11_18 : Int).toNat, none⟩ (.int .i64 ji81))) ?hg ?ho ?hn ?hr ?_; (case ho => rfl); (case hg => rfl); (case hn => rfl); (case hr => first | (go_simp; done) | (go_simp; rfl)); intro w87 hw; have hg : w84.grownBy w87 (some go82) := (by rw [hw]; exact HP86.2); have hp_ : Kd.R (Kd.int .i64) 3 w87 w.heap.size (fun _ => True) (.slice (some ⟨go82, 0, none⟩) x8_3.length co85) y252 := (by rw [hw, Ny252.out]; exact HP86.1); clear HP86; replace BK227 := Aside0.mk (blk_grown (g := gb227) (o := .cells #[.int .i64 a0_0, .int .i64 a0_1] 58 (0, 0)) (zK BK227) hg (Kd.R_ne HO_8.out BK227.out (by decide))); replace HO_8 := Aside0.mk (hp_); replace HB := Aside0.mk ((by rw [hw]; exact below_set (HB.out) GB82.out : Below w.heap.size w w87)); clear hg hw hp_; have p83 : 0 ≤ (t237 : Int) := of_decide_eq_true (by assumption); have q83 : (t237 : Int) < ((x8_3.length : Int) : Int) := of_decide_eq_true (by assumption); obtain ⟨hx83_0, hf83_0⟩ := Kd.R_celln 0 HO_8.out (t237 : Int) p83 q83; replace p83 := eq_true p83; replace q83 := eq_true q83; obtain ⟨hy88_, hz88_⟩ := Kd.R_celln 0 HO_8.out (t237 : Int) (of_decide_eq_true (by assumption)) (of_decide_eq_true (by assumption)); have HP88 := Kd.R_putg HO_8.out (t237 : Int) ji81) | ((with_reducible refine gate_store (t := 3) (p := 91) rfl ?_); refine store_event (t := 3) (p := 91) (v := ?vo_w89) (w1 := (w87.setCell ⟨go82, (t237 : Int).toNat, none⟩ (.int .i64 ji81))) ?hg ?ho ?hn ?hr ?_; (case ho => rfl); (case hg => rfl); (case hn => rfl); (case hr => first | (go_simp; done) | (go_simp; rfl)); intro w89 hw; have hg : w87.grownBy w89 (some go82) := (by rw [hw]; exact HP88.2); have hp_ : Kd.R (Kd.int .i64) 3 w89 w.heap.size (fun _ => True) (.slice (some ⟨go82, 0, none⟩) x8_3.length co85) y253 := (by rw [hw, Ny253.out]; exact HP88.1); clear HP88; replace BK227 := Aside0.mk (blk_grown (g := gb227) (o := .cells #[.int .i64 a0_0, .int .i64 a0_1] 58 (0, 0)) (zK BK227) hg (Kd.R_ne HO_8.out BK227.out (by decide))); replace HO_8 := Aside0.mk (hp_); replace HB := Aside0.mk ((by rw [hw]; exact below_set (HB.out) GB82.out : Below w.heap.size w w89)); clear hg hw hp_))
                     first | go_roundg kj18 | ((try subst hji25); (try subst hji30); (try subst hji33); (try subst hji42); (try subst hji46); (try subst hji49); (try subst hji59); (try subst hji66); (try subst hji75); (try subst hji81); go_roundg kj18)
                     case measure => have := HK1.out; have := HK2.out; have := HK3.out; have := HJ18.out; omega
                     case rel => exact ⟨(y253), (wrap64 (x44_3 + 1)), zA, H', ⟨by have := HK1.out; have := HK2.out; have := HK3.out; have := HJ18.out; omega⟩, ⟨zR HO_8⟩, ⟨zK BK227⟩, ⟨zB⟩⟩
                    ·rw [if_neg c80] at H
                     exact absurd H (by simp)
                   ·rw [if_neg c79] at H
                    exact absurd H (by simp)
                  ·rw [if_neg c78] at H
                   exact absurd H (by simp)
                 ·rw [if_neg c77] at H
                  exact absurd H (by simp)
             ·rw [if_neg c58] at H
              exact absurd H (by simp)
         ·rw [if_neg c17] at H
          have c17b0 : decide (x44_3 < (wrap64 (t234 + t235))) = false := decide_eq_false c17
          clear c17
          have H' := Aside0.mk H
          clear H
          go_wp2
          first | go_roundg k3 | ((try subst hji25); (try subst hji30); (try subst hji33); (try subst hji42); (try subst hji46); (try subst hji49); (try subst hji59); (try subst hji66); (try subst hji75); (try subst hji81); go_roundg k3)
          case measure => have := HK1.out; have := HK2.out; have := HK3.out; omega
          case rel => exact ⟨(x8_3), (wrap64 (x37_2 + 1)), zA, H', ⟨by have := HK1.out; have := HK2.out; have := HK3.out; omega⟩, ⟨zR HO_8⟩, ⟨zK BK227⟩, ⟨zB⟩⟩
      ·rw [if_neg c11] at H
       have c11b0 : decide (x37_2 < (wrap64 ((wrap64 (a0_0 * a0_1)) + 1))) = false := decide_eq_false c11
       clear c11
       obtain ⟨y254, hy254⟩ : ∃ y_ : List (List Int), y_ = (([] : List (List Int))) := ⟨_, rfl⟩
       replace H : (impl_grid_regions.l3 k2 a2 (wrap64 (a0_0 * a0_1)) x8_2 y254 (wrap64 (a0_0 * a0_1)) 0) = some r := by first | (rw [hy254]; with_reducible exact H) | (have H2_ := (Option.bind_some _ _).symm.trans H; rw [hy254]; with_reducible exact H2_) | (have H2_ := (Option.bind_some _ _).symm.trans H; with_reducible exact H2_) | with_reducible exact H | (rw [hy254]; exact H) | exact H
       have Ny254 := Aside0.mk hy254
       clear hy254
       have H' := Aside0.mk H
       clear H
       go_wp2_with (first | ((with_reducible refine gate_dst (N := 94) rfl ?_); (try (refine gate_guard (by rfl) ?_; dsimp only)); refine Kd.S_lit (Kd.slice 3 (Kd.int .i64)) _ 25 ?hg (N := 94) ?hd (xs := ([] : List (List Int))) (inner := []) (ok := fun _ => True) (okp := fun _ => True) ?hr ?hp (fun _ hk => hk) trivial (Below.refl _ _) (Nat.le_refl _) (by simp) ?_; (case hd => rfl); (case hg => rfl); (case hr => first | (go_simp; done) | (go_simp; rfl)); (case hp => exact (Reps.none _ _)); intro v255 w90 ho91 hb hg_ hnew_; clear hg_ hnew_; (first | rw [← Ny254.out] at ho91 | (simp only [Int.reduceToNat] at ho91; rw [← Ny254.out] at ho91)); have HO256 := Aside0.mk (Kd.S_lower (Kd.S_new' ho91 (Kd.R_lt (zR HO_8))) (below_size zB)); replace HO_8 := Aside0.mk (Kd.R_below (zR HO_8) hb); replace BK227 := zKb BK227 hb; replace HB := zBb hb; clear hb ho91))
       go_loopg [14, 96] k2 (fun kq v14 v96 w' => ∃ (x14_3 : List (List Int)) (x96_3 : Int), v96 = .int .i64 x96_3 ∧ Aside0 (impl_grid_regions.l3 kq a2 (wrap64 (a0_0 * a0_1)) x8_2 x14_3 (wrap64 (a0_0 * a0_1)) x96_3 = some r) ∧ Aside0 (kq ≤ k2) ∧ Aside0 (Kd.R (Kd.int .i64) 3 w' w.heap.size (fun _ => True) u8 x8_2) ∧ Aside0 (Kd.S (Kd.slice 3 (Kd.int .i64)) 25 w' w.heap.size (fun k_ => some k_ ≠ (u8 : Value).ownBlock) v14 x14_3) ∧ Aside0 (w'.heap[gb227]? = some (.cells #[.int .i64 a0_0, .int .i64 a0_1] 58 (0, 0))) ∧ Aside0 (Below w.heap.size w w'))
       case atStart => exact ⟨(y254), (0), zA, H', ⟨Nat.le_refl _⟩, ⟨zR HO_8⟩, ⟨by (with_reducible repeat (first | apply Kd.S_alloc | apply Kd.S_drewN | apply Kd.S_drew)); exact Kd.S_mono HO256.out (fun _ hk => hk.2)⟩, ⟨zK BK227⟩, ⟨zB⟩⟩
       case round =>
        clear H'
        (try clear c1); (try clear c2); (try clear p2); (try clear q2); (try clear hx2); (try clear c4); (try clear c5); (try clear p5); (try clear q5); (try clear hx5); (try clear hf5); (try clear c6); (try clear p6); (try clear q6); (try clear hx6); (try clear hf6); (try clear c7); (try clear c8); (try clear c8b0); (try clear p8); (try clear q8); (try clear hx8); (try clear hf8); (try clear c11); (try clear c11b0); (try clear c17); (try clear c17b0); (try clear c23); (try clear c23b0); (try clear c24); (try clear p24); (try clear q24); (try clear hx24); (try clear p25); (try clear q25); (try clear hx25); (try clear c27); (try clear c43); (try clear c43b0); (try clear c43b1); (try clear c44); (try clear c44b0); (try clear c45); (try clear c45b0); (try clear c47); (try clear c47b0); (try clear c48); (try clear c48b0); (try clear p50); (try clear q50); (try clear hx50); (try clear hf50); (try clear p51); (try clear q51); (try clear hx51); (try clear hf51); (try clear c58); (try clear c58b0); (try clear c58b1); (try clear c60); (try clear c60b0); (try clear c60b1); (try clear c61); (try clear c62); (try clear c62b0); (try clear c63); (try clear c63b0); (try clear c64); (try clear c64b0); (try clear p64); (try clear c65); (try clear c65b0); (try clear p67); (try clear q67); (try clear hx67); (try clear hf67); (try clear p68); (try clear q68); (try clear hx68); (try clear hf68); (try clear c76); (try clear c76b0); (try clear c76b1); (try clear c77); (try clear c77b0); (try clear c78); (try clear c78b0); (try clear c79); (try clear c79b0); (try clear c80); (try clear c80b0); (try clear p82); (try clear q82); (try clear hx82); (try clear hf82); (try clear p83); (try clear q83); (try clear hx83); (try clear hf83); (try clear hx242_0); (try clear hx243_0); (try clear hx246_0); (try clear hx247_0); (try clear hx250_0); (try clear hx251_0); (try clear hx50_0); (try clear hx51_0); (try clear hx67_0); (try clear hx68_0); (try clear hx82_0); (try clear hx83_0); (try clear p242); (try clear p243); (try clear p246); (try clear p247); (try clear p250); (try clear p251); (try clear p50); (try clear p51); (try clear p67); (try clear p68); (try clear p82); (try clear p83); (try clear q242); (try clear q243); (try clear q246); (try clear q247); (try clear q250); (try clear q251); (try clear q50); (try clear q51); (try clear q67); (try clear q68); (try clear q82); (try clear q83)
        obtain ⟨x14_3, x96_3, rfl, HA, HK3, HO_8, HO_14, BK227, HB⟩ := hrel
        cases gk with
        | zero => exact absurd HA.out (by simp [impl_grid_regions.l3])
        | succ k3 =>
         have H := HA.out
         clear HA
         simp only [impl_grid_regions.l3] at H
         by_cases c92 : x96_3 < (wrap64 (a0_0 * a0_1))
         ·rw [if_pos c92] at H
          have c92b0 : decide (x96_3 < (wrap64 (a0_0 * a0_1))) = true := decide_eq_true c92
          clear c92
          obtain ⟨y257, hy257⟩ : ∃ y_ : List Int, y_ = (([] : List Int)) := ⟨_, rfl⟩
          replace H : (if 0 ≤ (wrap64 (a0_0 * a0_1)) then (if (wrap64 (a0_0 * a0_1)) ≤ (x8_2.length : Int) then ((some (x8_2.take ((wrap64 (a0_0 * a0_1)) : Int).toNat : List Int)).bind fun y260 => (impl_grid_regions.l4 k3 a2 (wrap64 (a0_0 * a0_1)) x8_2 x14_3 x96_3 y257 (wrap64 (a0_0 * a0_1)) x96_3 y260 (y260.length : Int) 0)) else (none)) else (none)) = some r := by first | (rw [hy257]; with_reducible exact H) | (have H2_ := (Option.bind_some _ _).symm.trans H; rw [hy257]; with_reducible exact H2_) | (have H2_ := (Option.bind_some _ _).symm.trans H; with_reducible exact H2_) | with_reducible exact H | (rw [hy257]; exact H) | exact H
          have Ny257 := Aside0.mk hy257
          clear hy257
          obtain ⟨ji93, hji93⟩ : ∃ j_ : Int, (wrap64 (a0_0 * a0_1)) = j_ := ⟨_, rfl⟩
          replace H : (if 0 ≤ (ji93) then (if (ji93) ≤ (x8_2.length : Int) then ((some (x8_2.take ((ji93) : Int).toNat : List Int)).bind fun y260 => (impl_grid_regions.l4 k3 a2 (ji93) x8_2 x14_3 x96_3 y257 (ji93) x96_3 y260 (y260.length : Int) 0)) else (none)) else (none)) = some r := by first | (rw [hji93] at H; exact H) | (simp only [hji93] at H ⊢; exact H)
          (try rw [hji93] at c8b0)
          (try rw [hji93] at c11b0)
          (try rw [hji93] at c92b0)
          have hji93w : (IntKind.i64.wrap (a0_0 * a0_1)) = ji93 := (i64_w _).trans hji93
          by_cases c94 : 0 ≤ (ji93)
          ·rw [if_pos c94] at H
           have c94b0 := eq_true c94
           have c94b1 : decide (0 ≤ (ji93)) = true := decide_eq_true c94
           clear c94
           by_cases c95 : (ji93) ≤ (x8_2.length : Int)
           ·rw [if_pos c95] at H
            have c95b0 := eq_true c95
            have c95b1 : decide ((ji93) ≤ (x8_2.length : Int)) = true := decide_eq_true c95
            clear c95
            obtain ⟨y260, hy260⟩ : ∃ y_ : List Int, y_ = (x8_2.take ((ji93) : Int).toNat) := ⟨_, rfl⟩
            replace H : (impl_grid_regions.l4 k3 a2 (ji93) x8_2 x14_3 x96_3 y257 (ji93) x96_3 y260 (y260.length : Int) 0) = some r := by first | (rw [hy260]; with_reducible exact H) | (have H2_ := (Option.bind_some _ _).symm.trans H; rw [hy260]; with_reducible exact H2_) | (have H2_ := (Option.bind_some _ _).symm.trans H; with_reducible exact H2_) | with_reducible exact H | (rw [hy260]; exact H) | exact H
            have Ny260 := Aside0.mk hy260
            clear hy260
            have H' := Aside0.mk H
            clear H
            go_wp2_with (first | ((with_reducible refine gate_dst (N := 99) rfl ?_); (try (refine gate_guard (by rfl) ?_; dsimp only)); refine Kd.R_lit (Kd.int .i64) _ 3 ?hg (N := 99) ?hd (xs := ([] : List Int)) (inner := []) (ok := fun _ => True) (okp := fun _ => True) ?hr ?hp (fun _ hk => hk) trivial (Below.refl _ _) (Nat.le_refl _) (by simp) ?_; (case hd => rfl); (case hg => rfl); (case hr => first | (go_simp; done) | (go_simp; rfl)); (case hp => exact (Reps.none _ _)); intro v258 w96 ho97 hb hg_ hnew_; clear hg_ hnew_; (first | rw [← Ny257.out] at ho97 | (simp only [Int.reduceToNat] at ho97; rw [← Ny257.out] at ho97)); replace HO_14 := Aside0.mk (Kd.S_elder' (zS HO_14) (Kd.R_base ho97) hb); have HO259 := Aside0.mk (Kd.R_lower (Kd.R_new' ho97 (Kd.R_lt (zR HO_8))) (below_size zB)); replace HO_8 := Aside0.mk (Kd.R_elder' (zR HO_8) (Kd.R_base ho97) hb); replace BK227 := zKb BK227 hb; replace HB := zBb hb; clear hb ho97; obtain ⟨Ao99, co99, eo99⟩ := Kd.R_slice HO_8.out; subst eo99; have q98 : ((ji93) : Int) ≤ ((x8_2.length : Int) : Int) := of_decide_eq_true (by assumption); obtain ⟨i098, hi098, _, hsz98, _⟩ := info_parts info3; have hroom98 : x8_2.length ≤ co99 := (Kd.R_reads' HO_8.out).2.1; have hC98 : Kd.C (Kd.int .i64) _ Ao99 x8_2.length x8_2 := (Kd.R_reads' HO_8.out).2.2; have hcut98 := cut_to (P := Tryd.prog) 25 3 .i64 Tryd.underlying25 hi098 Ao99 x8_2.length co99 (ji93) (of_decide_eq_true (by assumption)) q98 hroom98; have hr98 := Kd.C_take (m := ((ji93) : Int).toNat) hC98 (by omega); have hy98 : y260.length = ((ji93) : Int).toNat := (by rw [Ny260.out, List.length_take]; omega); rw [← Ny260.out] at hr98; rw [← hy98] at hcut98; have HR263 := Aside0.mk hr98; have HC263 := Aside0.mk (show y260.length ≤ co99 from by omega); clear hr98 hC98 hroom98 hi098 hsz98; have KY98 := Aside0.mk hy98; clear hy98; have KL98 := Aside0.mk (show ((ji93) : Int).toNat ≤ x8_2.length from by omega); replace q98 := eq_true q98))
            go_loopg [16, 104] k3 (fun kq v16 v104 w' => ∃ (x16_4 : List Int) (x104_4 : Int), v104 = .int .i64 x104_4 ∧ Aside0 (impl_grid_regions.l4 kq a2 (ji93) x8_2 x14_3 x96_3 x16_4 (ji93) x96_3 y260 (y260.length : Int) x104_4 = some r) ∧ Aside0 (kq ≤ k3) ∧ Aside0 (Kd.R (Kd.int .i64) 3 w' w.heap.size (fun k_ => some k_ ≠ (v16 : Value).ownBlock) (.slice Ao99 x8_2.length co99) x8_2) ∧ Aside0 (Kd.S (Kd.slice 3 (Kd.int .i64)) 25 w' w.heap.size (fun k_ => some k_ ≠ ((.slice Ao99 x8_2.length co99) : Value).ownBlock ∧ some k_ ≠ (v16 : Value).ownBlock) u14 x14_3) ∧ Aside0 (Kd.R (Kd.int .i64) 3 w' w.heap.size (fun k_ => some k_ ≠ ((.slice Ao99 x8_2.length co99) : Value).ownBlock) v16 x16_4) ∧ Aside0 (w'.heap[gb227]? = some (.cells #[.int .i64 a0_0, .int .i64 a0_1] 58 (0, 0))) ∧ Aside0 (Kd.C (Kd.int .i64) w' Ao99 y260.length y260) ∧ Aside0 (Below w.heap.size w w'))
            case atStart => exact ⟨(y257), (0), zA, H', ⟨Nat.le_refl _⟩, ⟨by (with_reducible repeat (first | apply Kd.R_alloc | apply Kd.R_drewN | apply Kd.R_drew)); exact Kd.R_mono HO_8.out (fun _ hk => hk.2)⟩, ⟨zS HO_14⟩, ⟨by (with_reducible repeat (first | apply Kd.R_alloc | apply Kd.R_drewN | apply Kd.R_drew)); exact Kd.R_mono HO259.out (fun _ hk => hk.2)⟩, ⟨zK BK227⟩, ⟨by repeat (first | (with_reducible exact HR263.out) | (with_reducible refine Kd.C_alloc ?_ _) | (with_reducible refine Kd.C_drewN ?_ _) | (with_reducible refine Kd.C_drew ?_) | exact HR263.out)⟩, ⟨zB⟩⟩
            case round =>
             clear H'
             (try clear c1); (try clear c2); (try clear p2); (try clear q2); (try clear hx2); (try clear c4); (try clear c5); (try clear p5); (try clear q5); (try clear hx5); (try clear hf5); (try clear c6); (try clear p6); (try clear q6); (try clear hx6); (try clear hf6); (try clear c7); (try clear c8); (try clear c8b0); (try clear p8); (try clear q8); (try clear hx8); (try clear hf8); (try clear c9); (try clear q9); (try clear c11); (try clear c11b0); (try clear c17); (try clear c17b0); (try clear c23); (try clear c23b0); (try clear c24); (try clear p24); (try clear q24); (try clear hx24); (try clear p25); (try clear q25); (try clear hx25); (try clear c27); (try clear c43); (try clear c43b0); (try clear c43b1); (try clear c44); (try clear c44b0); (try clear c45); (try clear c45b0); (try clear c47); (try clear c47b0); (try clear c48); (try clear c48b0); (try clear p50); (try clear q50); (try clear hx50); (try clear hf50); (try clear p51); (try clear q51); (try clear hx51); (try clear hf51); (try clear c58); (try clear c58b0); (try clear c58b1); (try clear c60); (try clear c60b0); (try clear c60b1); (try clear c61); (try clear c62); (try clear c62b0); (try clear c63); (try clear c63b0); (try clear c64); (try clear c64b0); (try clear p64); (try clear c65); (try clear c65b0); (try clear p67); (try clear q67); (try clear hx67); (try clear hf67); (try clear p68); (try clear q68); (try clear hx68); (try clear hf68); (try clear c76); (try clear c76b0); (try clear c76b1); (try clear c77); (try clear c77b0); (try clear c78); (try clear c78b0); (try clear c79); (try clear c79b0); (try clear c80); (try clear c80b0); (try clear p82); (try clear q82); (try clear hx82); (try clear hf82); (try clear p83); (try clear q83); (try clear hx83); (try clear hf83); (try clear c92); (try clear c92b0); (try clear c94); (try clear c94b0); (try clear c94b1); (try clear c95); (try clear c95b0); (try clear c95b1); (try clear q98); (try clear hx242_0); (try clear hx243_0); (try clear hx246_0); (try clear hx247_0); (try clear hx250_0); (try clear hx251_0); (try clear hx50_0); (try clear hx51_0); (try clear hx67_0); (try clear hx68_0); (try clear hx82_0); (try clear hx83_0); (try clear p2); (try clear p24); (try clear p242); (try clear p243); (try clear p246); (try clear p247); (try clear p25); (try clear p250); (try clear p251); (try clear p5); (try clear p50); (try clear p51); (try clear p6); (try clear p64); (try clear p67); (try clear p68); (try clear p8); (try clear p82); (try clear p83); (try clear q2); (try clear q24); (try clear q242); (try clear q243); (try clear q246); (try clear q247); (try clear q25); (try clear q250); (try clear q251); (try clear q5); (try clear q50); (try clear q51); (try clear q6); (try clear q67); (try clear q68); (try clear q8); (try clear q82); (try clear q83); (try clear q98)
             obtain ⟨x16_4, x104_4, rfl, HA, HK4, HO_8, HO_14, HO_16, BK227, HR263, HB⟩ := hrel
             cases gk with
             | zero => exact absurd HA.out (by simp [impl_grid_regions.l4])
             | succ k4 =>
              have H := HA.out
              clear HA
              simp only [impl_grid_regions.l4] at H
              by_cases c100 : x104_4 < (y260.length : Int)
              ·rw [if_pos c100] at H
               have c100b0 : decide (x104_4 < (y260.length : Int)) = true := decide_eq_true c100
               clear c100
               by_cases c101 : 0 ≤ x104_4
               ·rw [if_pos c101] at H
                have c101b0 : decide (0 ≤ x104_4) = true := decide_eq_true c101
                clear c101
                by_cases c102 : x104_4 < (y260.length : Int)
                ·rw [if_pos c102] at H
                 have c102b0 : decide (x104_4 < (y260.length : Int)) = true := decide_eq_true c102
                 clear c102
                 by_cases c103 : (rd y260 x104_4) = x96_3
                 ·rw [if_pos c103] at H
                  have c103b0 : ((rd y260 x104_4) == x96_3) = true := beq_iff_eq.mpr c103
                  have c103b1 : ((rd y260 x104_4) != x96_3) = false := bne_eq_false_iff_eq.mpr c103
                  clear c103
                  by_cases c104 : x16_4.length < 17592186044416
                  ·rw [if_pos c104] at H
                   have LMc104 := Aside0.mk c104
                   clear c104
                   obtain ⟨y265, hy265⟩ : ∃ y_ : List Int, y_ = (x16_4 ++ [x104_4]) := ⟨_, rfl⟩
                   replace H : (impl_grid_regions.l4 k4 a2 (ji93) x8_2 x14_3 x96_3 y265 (ji93) x96_3 y260 (y260.length : Int) (wrap64 (x104_4 + 1))) = some r := by first | (rw [hy265]; with_reducible exact H) | (have H2_ := (Option.bind_some _ _).symm.trans H; rw [hy265]; with_reducible exact H2_) | (have H2_ := (Option.bind_some _ _).symm.trans H; with_reducible exact H2_) | with_reducible exact H | (rw [hy265]; exact H) | exact H
                   have Ny265 := Aside0.mk hy265
                   clear hy265
                   have H' := Aside0.mk H
                   clear H
                   have p264 : 0 ≤ (x104_4 : Int) := of_decide_eq_true (by assumption)
                   have q264 : x104_4 < (y260.length : Int) := of_decide_eq_true (by assumption)
                   obtain ⟨ad264, e264, hx264_0⟩ := Kd.at_int HR263.out x104_4 p264 q264
                   cases e264
                   try replace hx264_0 := (HB.out.cell (World.block_lt_of_cell? w _ hx264_0)).trans hx264_0
                   replace p264 := eq_true p264
                   replace q264 := eq_true q264
                   go_wp2_with (first | ((with_reducible refine gate_builtin (b := .append) (xs := #[.tmp 112, .tmp 114]) rfl ?_); (try (refine gate_guard (by rfl) ?_; dsimp only)); at_builtin; refine Kd.R_append (Kd.int .i64) (w0 := w) w.heap.size rfl (.tmp 112) (.tmp 114) 25 3 (.int .i64 0) 8 rfl Tryd.underlying25 info3 rfl (by decide) (by omega) u16 x16_4 x104_4 [.int .i64 x104_4] (fun k_ => some k_ ≠ (.slice (some ad264) x8_2.length co99 : Value).ownBlock) (fun _ => False) rfl rfl ?aP (fun _ hk => hk.elim) ?aF ?aO ?aB ?aS ?aL ?_; (case aP => exact rfl); (case aB => exact zB); (case aF => exact (fun k_ hk => Kd.fresh' (Kd.R_lt (zR HO_8)) k_ hk)); (case aO => exact (zR HO_16)); (case aS => exact (below_size zB)); (case aL => have := LMc104.out; omega); intro v266 w105 ho hb hg hat; rw [← Ny265.out] at ho; have n0_ := Aside0.mk (Kd.R_after (ok := (fun _ => True)) (by (with_reducible repeat (first | apply Kd.R_alloc | apply Kd.R_drewN | apply Kd.R_drew)); exact Kd.R_mono HO_8.out (fun _ hk => ⟨trivial, hk⟩)) hg hat); have n1_ := Aside0.mk (Kd.S_after (ok := (fun k_ => some k_ ≠ (.slice (some ad264) x8_2.length co99 : Value).ownBlock)) (zS HO_14) hg hat); have n2_ := Aside0.mk (blk_grown (g := gb227) (o := .cells #[.int .i64 a0_0, .int .i64 a0_1] 58 (0, 0)) (zK BK227) hg (Kd.R_ne HO_16.out BK227.out (by decide))); have n3_ := Aside0.mk (hb); have n4_ := Aside0.mk ((show Kd.C (Kd.int .i64) w105 (some ad264) y260.length y260 from by rw [Ny260.out]; exact Kd.C_take (m := ((ji93) : Int).toNat) ((Kd.R_reads' (Kd.R_after (ok := (fun _ => True)) (by (with_reducible repeat (first | apply Kd.R_alloc | apply Kd.R_drewN | apply Kd.R_drew)); exact Kd.R_mono HO_8.out (fun _ hk => ⟨trivial, hk⟩)) hg hat)).2.2) KL98.out)); have n5_ := Aside0.mk (ho); clear HO_8; clear HO_14; clear BK227; clear HB; clear HR263; clear HO_16; have HO_8 := n0_; have HO_14 := n1_; have BK227 := n2_; have HB := n3_; have HR263 := n4_; have HO267 := n5_; clear n0_ n1_ n2_ n3_ n4_ n5_; clear ho hb hg hat))
                   first | go_roundg k4 | ((try subst hji25); (try subst hji30); (try subst hji33); (try subst hji42); (try subst hji46); (try subst hji49); (try subst hji59); (try subst hji66); (try subst hji75); (try subst hji81); (try subst hji93); go_roundg k4)
                   case measure => have := HK1.out; have := HK2.out; have := HK3.out; have := HK4.out; omega
                   case rel => exact ⟨(y265), (wrap64 (x104_4 + 1)), zA, H', ⟨by have := HK1.out; have := HK2.out; have := HK3.out; have := HK4.out; omega⟩, ⟨by (with_reducible repeat (first | apply Kd.R_alloc | apply Kd.R_drewN | apply Kd.R_drew)); exact Kd.R_mono HO_8.out (fun _ hk => hk.2)⟩, ⟨zS HO_14⟩, ⟨zR HO267⟩, ⟨zK BK227⟩, ⟨by repeat (first | (with_reducible exact HR263.out) | (with_reducible refine Kd.C_alloc ?_ _) | (with_reducible refine Kd.C_drewN ?_ _) | (with_reducible refine Kd.C_drew ?_) | exact HR263.out)⟩, ⟨zB⟩⟩
                  ·rw [if_neg c104] at H
                   exact absurd H (by simp)
                 ·rw [if_neg c103] at H
                  have c103b0 : ((rd y260 x104_4) == x96_3) = false := beq_eq_false_iff_ne.mpr c103
                  have c103b1 : ((rd y260 x104_4) != x96_3) = true := bne_iff_ne.mpr c103
                  have H' := Aside0.mk H
                  clear H
                  have p264 : 0 ≤ (x104_4 : Int) := of_decide_eq_true (by assumption)
                  have q264 : x104_4 < (y260.length : Int) := of_decide_eq_true (by assumption)
                  obtain ⟨ad264, e264, hx264_0⟩ := Kd.at_int HR263.out x104_4 p264 q264
                  cases e264
                  try replace hx264_0 := (HB.out.cell (World.block_lt_of_cell? w _ hx264_0)).trans hx264_0
                  replace p264 := eq_true p264
                  replace q264 := eq_true q264
                  go_wp2
                  first | go_roundg k4 | ((try subst hji25); (try subst hji30); (try subst hji33); (try subst hji42); (try subst hji46); (try subst hji49); (try subst hji59); (try subst hji66); (try subst hji75); (try subst hji81); (try subst hji93); go_roundg k4)
                  case measure => have := HK1.out; have := HK2.out; have := HK3.out; have := HK4.out; omega
                  case rel => exact ⟨(x16_4), (wrap64 (x104_4 + 1)), zA, H', ⟨by have := HK1.out; have := HK2.out; have := HK3.out; have := HK4.out; omega⟩, ⟨zR HO_8⟩, ⟨zS HO_14⟩, ⟨zR HO_16⟩, ⟨zK BK227⟩, ⟨by repeat (first | (with_reducible exact HR263.out) | (with_reducible refine Kd.C_alloc ?_ _) | (with_reducible refine Kd.C_drewN ?_ _) | (with_reducible refine Kd.C_drew ?_) | exact HR263.out)⟩, ⟨zB⟩⟩
                ·rw [if_neg c102] at H
                 exact absurd H (by simp)
               ·rw [if_neg c101] at H
                exact absurd H (by simp)
              ·rw [if_neg c100] at H
               have c100b0 : decide (x104_4 < (y260.length : Int)) = false := decide_eq_false c100
               clear c100
               by_cases c106 : (x16_4.length : Int) > 0
               ·rw [if_pos c106] at H
                have c106b0 : decide (0 < (x16_4.length : Int)) = true := decide_eq_true c106
                have c106b1 : decide (0 < x16_4.length) = true := decide_eq_true (by omega)
                clear c106
                by_cases c107 : a2 = true
                ·subst c107
                 have H1 : (if 0 ≤ (ji93) then (if (ji93) < (x8_2.length : Int) then (if ((rd x8_2 (ji93)) = x96_3) then (impl_grid_regions.l3 k4 true (ji93) x8_2 x14_3 (ji93) (wrap64 (x96_3 + 1))) else (if x14_3.length < 5864062014805 then (impl_grid_regions.l3 k4 true (ji93) x8_2 (x14_3 ++ [x16_4]) (ji93) (wrap64 (x96_3 + 1))) else (none))) else (none)) else (none)) = some r := by rw [if_pos rfl] at H; exact H
                 clear H
                 have H := H1
                 clear H1
                 by_cases c108 : 0 ≤ (ji93)
                 ·rw [if_pos c108] at H
                  have c108b0 : decide (0 ≤ (ji93)) = true := decide_eq_true c108
                  clear c108
                  by_cases c109 : (ji93) < (x8_2.length : Int)
                  ·rw [if_pos c109] at H
                   have c109b0 : decide ((ji93) < (x8_2.length : Int)) = true := decide_eq_true c109
                   clear c109
                   by_cases c110 : ((rd x8_2 (ji93)) = x96_3)
                   ·rw [if_pos c110] at H
                    have c110b0 : ((rd x8_2 (ji93)) == x96_3) = true := beq_iff_eq.mpr c110
                    have c110b1 : ((rd x8_2 (ji93)) != x96_3) = false := bne_eq_false_iff_eq.mpr c110
                    clear c110
                    have H' := Aside0.mk H
                    clear H
                    obtain ⟨Ao111, co111, eo111⟩ := Kd.R_slice HO_16.out
                    subst eo111
                    have p268 : 0 ≤ ((ji93) : Int) := of_decide_eq_true (by assumption)
                    have q268 : (ji93) < (x8_2.length : Int) := of_decide_eq_true (by assumption)
                    obtain ⟨ad268, e268, hx268_0⟩ := Kd.at_int (Kd.R_reads' HO_8.out).2.2 (ji93) p268 q268
                    cases e268
                    replace p268 := eq_true p268
                    replace q268 := eq_true q268
                    go_wp2
                    first | go_roundg k4 | ((try subst hji25); (try subst hji30); (try subst hji33); (try subst hji42); (try subst hji46); (try subst hji49); (try subst hji59); (try subst hji66); (try subst hji75); (try subst hji81); (try subst hji93); go_roundg k4)
                    case measure => have := HK1.out; have := HK2.out; have := HK3.out; have := HK4.out; omega
                    case rel => exact ⟨(x14_3), (wrap64 (x96_3 + 1)), zA, H', ⟨by have := HK1.out; have := HK2.out; have := HK3.out; have := HK4.out; omega⟩, ⟨by (with_reducible repeat (first | apply Kd.R_alloc | apply Kd.R_drewN | apply Kd.R_drew)); exact Kd.R_mono HO_8.out (fun _ hk => trivial)⟩, ⟨by (with_reducible repeat (first | apply Kd.S_alloc | apply Kd.S_drewN | apply Kd.S_drew)); exact Kd.S_mono HO_14.out (fun _ hk => hk.1)⟩, ⟨zK BK227⟩, ⟨zB⟩⟩
                   ·rw [if_neg c110] at H
                    have c110b0 : ((rd x8_2 (ji93)) == x96_3) = false := beq_eq_false_iff_ne.mpr c110
                    have c110b1 : ((rd x8_2 (ji93)) != x96_3) = true := bne_iff_ne.mpr c110
                    by_cases c112 : x14_3.length < 5864062014805
                    ·rw [if_pos c112] at H
                     have LMc112 := Aside0.mk c112
                     clear c112
                     obtain ⟨y269, hy269⟩ : ∃ y_ : List (List Int), y_ = (x14_3 ++ [x16_4]) := ⟨_, rfl⟩
                     replace H : (impl_grid_regions.l3 k4 true (ji93) x8_2 y269 (ji93) (wrap64 (x96_3 + 1))) = some r := by first | (rw [hy269]; with_reducible exact H) | (have H2_ := (Option.bind_some _ _).symm.trans H; rw [hy269]; with_reducible exact H2_) | (have H2_ := (Option.bind_some _ _).symm.trans H; with_reducible exact H2_) | with_reducible exact H | (rw [hy269]; exact H) | exact H
                     have Ny269 := Aside0.mk hy269
                     clear hy269
                     have H' := Aside0.mk H
                     clear H
                     obtain ⟨Ao113, co113, eo113⟩ := Kd.R_slice HO_16.out
                     subst eo113
                     have p268 : 0 ≤ ((ji93) : Int) := of_decide_eq_true (by assumption)
                     have q268 : (ji93) < (x8_2.length : Int) := of_decide_eq_true (by assumption)
                     obtain ⟨ad268, e268, hx268_0⟩ := Kd.at_int (Kd.R_reads' HO_8.out).2.2 (ji93) p268 q268
                     cases e268
                     replace p268 := eq_true p268
                     replace q268 := eq_true q268
                     go_wp2_with (first | ((with_reducible refine gate_builtin (b := .append) (xs := #[.tmp 132, .tmp 134]) rfl ?_); (try (refine gate_guard (by rfl) ?_; dsimp only)); at_builtin; refine Kd.S_append (Kd.slice 3 (Kd.int .i64)) (w0 := w) w.heap.size rfl (.tmp 132) (.tmp 134) 52 25 (.slice none 0 0) 24 rfl Tryd.underlying52 info25 rfl (by decide) (by omega) u14 x14_3 x16_4 [.slice Ao113 x16_4.length co113] (fun k_ => some k_ ≠ (.slice (some ad268) x8_2.length co99 : Value).ownBlock) (fun k_ => some k_ = (.slice Ao113 x16_4.length co113 : Value).ownBlock) rfl rfl ?aP (fun k_ hk_ => ((Kd.R_mono (ok' := fun k_ => ((fun k_ => some k_ ≠ (.slice (some ad268) x8_2.length co99 : Value).ownBlock)) k_ ∧ some k_ ≠ (u14 : Value).ownBlock) (Kd.R_apart' (HO_16.out) (Kd.S_typed HO_14.out) (by decide)) (fun k_ hk => ⟨hk.1, hk.2⟩))).1 k_ hk_.symm) ?aF ?aO ?aB ?aS ?aL ?_; (case aP => exact Kd.M_row (Kd.R_mono (Kd.R_tight rfl (Kd.R_mono (ok' := fun k_ => ((fun k_ => some k_ ≠ (.slice (some ad268) x8_2.length co99 : Value).ownBlock)) k_ ∧ some k_ ≠ (u14 : Value).ownBlock) (Kd.R_apart' (HO_16.out) (Kd.S_typed HO_14.out) (by decide)) (fun k_ hk => ⟨hk.1, hk.2⟩))) (fun _ h_ => h_))); (case aB => exact zB); (case aF => exact (fun k_ hk => Kd.fresh' (Kd.R_lt (zR HO_8)) k_ hk)); (case aO => exact (by (with_reducible repeat (first | apply Kd.S_alloc | apply Kd.S_drewN | apply Kd.S_drew)); exact Kd.S_mono HO_14.out (fun k_ hk => ⟨hk.1, fun e_ => hk.2 e_⟩))); (case aS => exact (below_size zB)); (case aL => have := LMc112.out; omega); intro v270 w114 ho hb hg hat; rw [← Ny269.out] at ho; have n0_ := Aside0.mk (Kd.R_over' (zR HO_8) (Kd.S_typed (zS HO_14)) (by decide) hg); have n1_ := Aside0.mk (blk_grown (g := gb227) (o := .cells #[.int .i64 a0_0, .int .i64 a0_1] 58 (0, 0)) (zK BK227) hg (Kd.S_ne HO_14.out BK227.out (by decide))); have n2_ := Aside0.mk (hb); have n3_ := Aside0.mk ((show Kd.C (Kd.int .i64) w114 (some ad268) y260.length y260 from by rw [Ny260.out]; exact Kd.C_take (m := ((ji93) : Int).toNat) ((Kd.R_reads' (Kd.R_over' (zR HO_8) (Kd.S_typed (zS HO_14)) (by decide) hg)).2.2) KL98.out)); have n4_ := Aside0.mk (ho); clear HO_8; clear BK227; clear HB; clear HR263; clear HO_14; clear HO_16; have HO_8 := n0_; have BK227 := n1_; have HB := n2_; have HR263 := n3_; have HO271 := n4_; clear n0_ n1_ n2_ n3_ n4_; clear ho hb hg hat))
                     first | go_roundg k4 | ((try subst hji25); (try subst hji30); (try subst hji33); (try subst hji42); (try subst hji46); (try subst hji49); (try subst hji59); (try subst hji66); (try subst hji75); (try subst hji81); (try subst hji93); go_roundg k4)
                     case measure => have := HK1.out; have := HK2.out; have := HK3.out; have := HK4.out; omega
                     case rel => exact ⟨(y269), (wrap64 (x96_3 + 1)), zA, H', ⟨by have := HK1.out; have := HK2.out; have := HK3.out; have := HK4.out; omega⟩, ⟨by (with_reducible repeat (first | apply Kd.R_alloc | apply Kd.R_drewN | apply Kd.R_drew)); exact Kd.R_mono HO_8.out (fun _ hk => trivial)⟩, ⟨zS HO271⟩, ⟨zK BK227⟩, ⟨zB⟩⟩
                    ·rw [if_neg c112] at H
                     exact absurd H (by simp)
                  ·rw [if_neg c109] at H
                   exact absurd H (by simp)
                 ·rw [if_neg c108] at H
                  exact absurd H (by simp)
                ·replace c107 := Bool.eq_false_iff.mpr c107
                 subst c107
                 have H1 : (if x14_3.length < 5864062014805 then (impl_grid_regions.l3 k4 false (ji93) x8_2 (x14_3 ++ [x16_4]) (ji93) (wrap64 (x96_3 + 1))) else (none)) = some r := by rw [if_neg (show ¬ (false = true) by decide)] at H; exact H
                 clear H
                 have H := H1
                 clear H1
                 by_cases c115 : x14_3.length < 5864062014805
                 ·rw [if_pos c115] at H
                  have LMc115 := Aside0.mk c115
                  clear c115
                  obtain ⟨y272, hy272⟩ : ∃ y_ : List (List Int), y_ = (x14_3 ++ [x16_4]) := ⟨_, rfl⟩
                  replace H : (impl_grid_regions.l3 k4 false (ji93) x8_2 y272 (ji93) (wrap64 (x96_3 + 1))) = some r := by first | (rw [hy272]; with_reducible exact H) | (have H2_ := (Option.bind_some _ _).symm.trans H; rw [hy272]; with_reducible exact H2_) | (have H2_ := (Option.bind_some _ _).symm.trans H; with_reducible exact H2_) | with_reducible exact H | (rw [hy272]; exact H) | exact H
                  have Ny272 := Aside0.mk hy272
                  clear hy272
                  have H' := Aside0.mk H
                  clear H
                  obtain ⟨Ao116, co116, eo116⟩ := Kd.R_slice HO_16.out
                  subst eo116
                  go_wp2_with (first | ((with_reducible refine gate_builtin (b := .append) (xs := #[.tmp 132, .tmp 134]) rfl ?_); (try (refine gate_guard (by rfl) ?_; dsimp only)); at_builtin; refine Kd.S_append (Kd.slice 3 (Kd.int .i64)) (w0 := w) w.heap.size rfl (.tmp 132) (.tmp 134) 52 25 (.slice none 0 0) 24 rfl Tryd.underlying52 info25 rfl (by decide) (by omega) u14 x14_3 x16_4 [.slice Ao116 x16_4.length co116] (fun k_ => some k_ ≠ (.slice Ao99 x8_2.length co99 : Value).ownBlock) (fun k_ => some k_ = (.slice Ao116 x16_4.length co116 : Value).ownBlock) rfl rfl ?aP (fun k_ hk_ => ((Kd.R_mono (ok' := fun k_ => ((fun k_ => some k_ ≠ (.slice Ao99 x8_2.length co99 : Value).ownBlock)) k_ ∧ some k_ ≠ (u14 : Value).ownBlock) (Kd.R_apart' (HO_16.out) (Kd.S_typed HO_14.out) (by decide)) (fun k_ hk => ⟨hk.1, hk.2⟩))).1 k_ hk_.symm) ?aF ?aO ?aB ?aS ?aL ?_; (case aP => exact Kd.M_row (Kd.R_mono (Kd.R_tight rfl (Kd.R_mono (ok' := fun k_ => ((fun k_ => some k_ ≠ (.slice Ao99 x8_2.length co99 : Value).ownBlock)) k_ ∧ some k_ ≠ (u14 : Value).ownBlock) (Kd.R_apart' (HO_16.out) (Kd.S_typed HO_14.out) (by decide)) (fun k_ hk => ⟨hk.1, hk.2⟩))) (fun _ h_ => h_))); (case aB => exact zB); (case aF => exact (fun k_ hk => Kd.fresh' (Kd.R_lt (zR HO_8)) k_ hk)); (case aO => exact (by (with_reducible repeat (first | apply Kd.S_alloc | apply Kd.S_drewN | apply Kd.S_drew)); exact Kd.S_mono HO_14.out (fun k_ hk => ⟨hk.1, fun e_ => hk.2 e_⟩))); (case aS => exact (below_size zB)); (case aL => have := LMc115.out; omega); intro v273 w117 ho hb hg hat; rw [← Ny272.out] at ho; have n0_ := Aside0.mk (Kd.R_over' (zR HO_8) (Kd.S_typed (zS HO_14)) (by decide) hg); have n1_ := Aside0.mk (blk_grown (g := gb227) (o := .cells #[.int .i64 a0_0, .int .i64 a0_1] 58 (0, 0)) (zK BK227) hg (Kd.S_ne HO_14.out BK227.out (by decide))); have n2_ := Aside0.mk (hb); have n3_ := Aside0.mk ((show Kd.C (Kd.int .i64) w117 Ao99 y260.length y260 from by rw [Ny260.out]; exact Kd.C_take (m := ((ji93) : Int).toNat) ((Kd.R_reads' (Kd.R_over' (zR HO_8) (Kd.S_typed (zS HO_14)) (by decide) hg)).2.2) KL98.out)); have n4_ := Aside0.mk (ho); clear HO_8; clear BK227; clear HB; clear HR263; clear HO_14; clear HO_16; have HO_8 := n0_; have BK227 := n1_; have HB := n2_; have HR263 := n3_; have HO274 := n4_; clear n0_ n1_ n2_ n3_ n4_; clear ho hb hg hat))
                  first | go_roundg k4 | ((try subst hji25); (try subst hji30); (try subst hji33); (try subst hji42); (try subst hji46); (try subst hji49); (try subst hji59); (try subst hji66); (try subst hji75); (try subst hji81); (try subst hji93); go_roundg k4)
                  case measure => have := HK1.out; have := HK2.out; have := HK3.out; have := HK4.out; omega
                  case rel => exact ⟨(y272), (wrap64 (x96_3 + 1)), zA, H', ⟨by have := HK1.out; have := HK2.out; have := HK3.out; have := HK4.out; omega⟩, ⟨by (with_reducible repeat (first | apply Kd.R_alloc | apply Kd.R_drewN | apply Kd.R_drew)); exact Kd.R_mono HO_8.out (fun _ hk => trivial)⟩, ⟨zS HO274⟩, ⟨zK BK227⟩, ⟨zB⟩⟩
                 ·rw [if_neg c115] at H
                  exact absurd H (by simp)
               ·rw [if_neg c106] at H
                have c106b0 : decide (0 < (x16_4.length : Int)) = false := decide_eq_false c106
                have c106b1 : decide (0 < x16_4.length) = false := decide_eq_false (by omega)
                clear c106
                have H' := Aside0.mk H
                clear H
                obtain ⟨Ao118, co118, eo118⟩ := Kd.R_slice HO_16.out
                subst eo118
                go_wp2
                first | go_roundg k4 | ((try subst hji25); (try subst hji30); (try subst hji33); (try subst hji42); (try subst hji46); (try subst hji49); (try subst hji59); (try subst hji66); (try subst hji75); (try subst hji81); (try subst hji93); go_roundg k4)
                case measure => have := HK1.out; have := HK2.out; have := HK3.out; have := HK4.out; omega
                case rel => exact ⟨(x14_3), (wrap64 (x96_3 + 1)), zA, H', ⟨by have := HK1.out; have := HK2.out; have := HK3.out; have := HK4.out; omega⟩, ⟨by (with_reducible repeat (first | apply Kd.R_alloc | apply Kd.R_drewN | apply Kd.R_drew)); exact Kd.R_mono HO_8.out (fun _ hk => trivial)⟩, ⟨by (with_reducible repeat (first | apply Kd.S_alloc | apply Kd.S_drewN | apply Kd.S_drew)); exact Kd.S_mono HO_14.out (fun _ hk => hk.1)⟩, ⟨zK BK227⟩, ⟨zB⟩⟩
           ·rw [if_neg c95] at H
            exact absurd H (by simp)
          ·rw [if_neg c94] at H
           exact absurd H (by simp)
         ·rw [if_neg c92] at H
          have c92b0 : decide (x96_3 < (wrap64 (a0_0 * a0_1))) = false := decide_eq_false c92
          clear c92
          obtain rfl := Option.some.inj H
          go_wp2
          go_ret
          exact ⟨_, zE, by (with_reducible repeat (first | apply Kd.S_alloc | apply Kd.S_drewN | apply Kd.S_drew)); exact Kd.S_mono HO_14.out (fun _ hk => trivial), zB⟩

end Go.Proofs.YtfkbjflndkjlnaaDoor.P
