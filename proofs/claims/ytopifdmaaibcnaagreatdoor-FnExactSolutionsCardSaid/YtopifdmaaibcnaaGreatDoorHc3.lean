import Derived.Test.YtopifdmaaibcnaaGreatDoorHd
import Derived.Test.YtopifdmaaibcnaaGreatDoorHc0
namespace Go.Proofs.YtopifdmaaibcnaaGreatDoor.H
open Go.RowKit Go.Proofs.YtopifdmaaibcnaaGreatDoorW.PrintWords Go.Proofs.YtopifdmaaibcnaaGreatDoorW.PrintLast Go.Proofs.YtopifdmaaibcnaaGreatDoorW.PrintMore
attribute [local go_sem] max2_int min2_int max_two min_two max_three min_three max_four min_four
set_option linter.unusedVariables false
set_option linter.unusedSimpArgs false

/-! ### impl_grid_figure: function 43 -/
def impl_grid_figure.T2 : Bool × List (List Nat × List Nat) := (true, [([], []), ([0], [0]), ([], []), ([2], [2]), ([], []), ([], []), ([4, 5], [4, 5]), ([6], [6]), ([], []), ([], []), ([9, 7], [9]), ([8, 10], [8, 10]), ([11, 10], [11]), ([1, 3, 7, 12], [1, 3, 7, 12]), ([13, 12, 0, 1, 2, 3, 4, 5, 6, 7, 8, 9, 10, 11, 12, 13], [13])])
def impl_grid_figure.B2 : List Nat := [0, 1, 0, 4, 0, 0, 48, 112, 0, 0, 752, 2032, 4080, 8191, 16383]
theorem impl_grid_figure.tab2 : rtab .any (opsOf Tryz.f43 2) = impl_grid_figure.T2 := by kernel_rfl
theorem impl_grid_figure.bits2 : waitsOk impl_grid_figure.T2.2 impl_grid_figure.B2 = true := by kernel_rfl
set_option maxHeartbeats 8000000 in
set_option maxRecDepth 100000 in
theorem impl_grid_figure.calls (k : Nat) (a0_0 : Int) (a0_1 : Int) (a1 : Int) (r1 : Int) (r2 : Int) (r3 : List Int) (r4 : List Int) (w : World) (hT : TzTab w) (h : impl_grid_figure.f k a0_0 a0_1 a1 = some (r1, r2, r3, r4)) :
  Calls Tryz.prog 43 #[.agg #[.int .i64 a0_0, .int .i64 a0_1], .int .u64 a1] w fun e w' => ∃ v2_ v3_ : Value, e = .returned (.agg #[.int .i64 r1, .int .i64 r2, v2_, v3_]) ∧ Kd.R (Kd.int .i64) 3 w' w.heap.size (fun k_ => some k_ ≠ (v3_ : Value).ownBlock) v2_ r3 ∧ Kd.R (Kd.int .i64) 3 w' w.heap.size (fun k_ => some k_ ≠ (v2_ : Value).ownBlock) v3_ r4 ∧ Below w.heap.size w w' := by
 have hu60 := Tryz.underlying60
 have hu30 := Tryz.underlying30
 have HT := Aside0.mk hT
 clear hT
 have HB := Aside0.mk (Below.refl w.heap.size w)
 have H : ((impl_grid_levels.f a0_0 a0_1).bind fun t186 => (if 0 ≤ t186 then ((impl_set_listed.f k (Go.bits .and .u64 a1 (IntKind.u64.wrap ((shl .u64 1 t186) - 1)))).bind fun t187 => ((impl_grid_levels.f a0_0 a0_1).bind fun t190 => (if 0 ≤ t190 then ((impl_set_listed.f k (shr .u64 a1 t190)).bind fun t191 => (some (a0_0, a0_1, t187, t191))) else (none)))) else (none))) = some (r1, r2, r3, r4) := h
 clear h
 replace H := Option.bind_eq_some_iff.mp H
 obtain ⟨t186, A30, H⟩ := H
 replace H : (if 0 ≤ t186 then ((impl_set_listed.f k (Go.bits .and .u64 a1 (IntKind.u64.wrap ((shl .u64 1 t186) - 1)))).bind fun t187 => ((impl_grid_levels.f a0_0 a0_1).bind fun t190 => (if 0 ≤ t190 then ((impl_set_listed.f k (shr .u64 a1 t190)).bind fun t191 => (some (a0_0, a0_1, t187, t191))) else (none)))) else (none)) = some (r1, r2, r3, r4) := H
 have A3 := Aside0.mk A30
 clear A30
 by_cases c4 : 0 ≤ t186
 ·rw [if_pos c4] at H
  have c4b0 := eq_true c4
  have c4b1 : decide (0 ≤ t186) = true := decide_eq_true c4
  clear c4
  obtain ⟨ji5, hji5⟩ : ∃ j_ : Int, (shl .u64 1 t186) = j_ := ⟨_, rfl⟩
  replace H : ((impl_set_listed.f k (Go.bits .and .u64 a1 (IntKind.u64.wrap ((ji5) - 1)))).bind fun t187 => ((impl_grid_levels.f a0_0 a0_1).bind fun t190 => (if 0 ≤ t190 then ((impl_set_listed.f k (shr .u64 a1 t190)).bind fun t191 => (some (a0_0, a0_1, t187, t191))) else (none)))) = some (r1, r2, r3, r4) := by first | (rw [hji5] at H; exact H) | (simp only [hji5] at H ⊢; exact H)
  (try rw [hji5] at A3)
  have hji5_ : (IntKind.u64.wrap (1 * 2 ^ min t186.toNat 64)) = ji5 := hji5
  have hji5z : t186 ≤ 64 → (IntKind.u64.wrap (1 * 2 ^ t186.toNat)) = ji5 := shl_small hji5
  have hji5u : (IntKind.u64.wrap (2 ^ min t186.toNat 64)) = ji5 := by have h_ := hji5_; rw [Int.one_mul] at h_; exact h_
  have hji5v : t186 ≤ 64 → (IntKind.u64.wrap (2 ^ t186.toNat)) = ji5 := fun hle_ => by have h_ := hji5z hle_; rw [Int.one_mul] at h_; exact h_
  replace H := Option.bind_eq_some_iff.mp H
  obtain ⟨t187, A60, H⟩ := H
  replace H : ((impl_grid_levels.f a0_0 a0_1).bind fun t190 => (if 0 ≤ t190 then ((impl_set_listed.f k (shr .u64 a1 t190)).bind fun t191 => (some (a0_0, a0_1, t187, t191))) else (none))) = some (r1, r2, r3, r4) := H
  have A6 := Aside0.mk A60
  clear A60
  replace H := Option.bind_eq_some_iff.mp H
  obtain ⟨t190, A70, H⟩ := H
  replace H : (if 0 ≤ t190 then ((impl_set_listed.f k (shr .u64 a1 t190)).bind fun t191 => (some (a0_0, a0_1, t187, t191))) else (none)) = some (r1, r2, r3, r4) := H
  have A7 := Aside0.mk A70
  clear A70
  by_cases c8 : 0 ≤ t190
  ·rw [if_pos c8] at H
   have c8b0 := eq_true c8
   have c8b1 : decide (0 ≤ t190) = true := decide_eq_true c8
   clear c8
   obtain ⟨ji9, hji9⟩ : ∃ j_ : Int, (shr .u64 a1 t190) = j_ := ⟨_, rfl⟩
   replace H : ((impl_set_listed.f k (ji9)).bind fun t191 => (some (a0_0, a0_1, t187, t191))) = some (r1, r2, r3, r4) := by first | (rw [hji9] at H; exact H) | (simp only [hji9] at H ⊢; exact H)
   (try rw [hji9] at A3)
   (try rw [hji9] at A6)
   (try rw [hji9] at A7)
   have hji9_ : (a1 / 2 ^ min t190.toNat 64) = ji9 := hji9
   have hji9z : t190 ≤ 64 → (a1 / 2 ^ t190.toNat) = ji9 := shr_small hji9
   replace H := Option.bind_eq_some_iff.mp H
   obtain ⟨t191, A100, H⟩ := H
   replace H : (some (a0_0, a0_1, t187, t191)) = some (r1, r2, r3, r4) := H
   have A10 := Aside0.mk A100
   clear A100
   simp only [Option.some.injEq, Prod.mk.injEq] at H
   obtain ⟨rfl, rfl, rfl, rfl⟩ := H
   go_enter Tryz.func43, Tryz.ntmps43
   try go_wp2_with (first | ((with_reducible refine gate_dst (N := 2) rfl ?_); refine zbx 2 #[.int .i64 a0_0, .int .i64 a0_1] 60 ?_; intro gb184 hg w11 hbox hb; have BK184 := Aside0.mk (hbox); have GW184 := zGe hg; have GE184 := zGe hg; replace HB := zBb hb; clear hb hbox hg) | ((with_reducible refine gate_dst (N := 4) rfl ?_); refine zbx 4 #[.int .i64 0, .int .i64 0, .slice none 0 0, .slice none 0 0] 30 ?_; intro gb185 hg w12 hbox hb; have BK185 := Aside0.mk (hbox); have GW185 := zGe hg; have GE185 := zGe hg; have NB184_185 := zNl BK184 hg; have NB185_184 := zNg BK184 hg; replace BK184 := zKb BK184 hb; replace HB := zBb hb; clear hb hbox hg; have hnb13 := NB184_185.out; have hnc13 := NB185_184.out; obtain ⟨hcz14_0, hcz14_1, hfz14_0, hfz14_1⟩ := blk2 BK184) | ((with_reducible refine gate_callee (f := 69) rfl ?_); refine goesL_ (some 7) rfl rfl Tryz.func69 (by kernel_rfl) rfl #[.agg #[.int .i64 a0_0, .int .i64 a0_1]] rfl zM ?_; (with_reducible refine (impl_grid_levels.calls a0_0 a0_1 t186 _ A3.out).mono ?_); rintro e w15 ⟨rfl, hb⟩; refine ⟨_, rfl, ?_⟩; replace BK184 := zKb BK184 hb; replace BK185 := zKb BK185 hb; replace HB := zBb hb; (try clear hb); (try clear hb2); (try clear hk); (try clear hi)))
   replace BK184 := Aside0.mk (blk_drew BK184.out)
   replace BK185 := Aside0.mk (blk_drew BK185.out)
   replace HB := Aside0.mk (below_drew1 HB.out)
   refine start_ (n := 15) (S := fun w' => w'.cell? ⟨gb184, 0, none⟩ = some (.int .i64 a0_0) ∧ w'.cell? ⟨gb184, 1, none⟩ = some (.int .i64 a0_1)) (ds := []) (fl 15 0) (by kernel_rfl) rfl rfl zQ (fun hHeld => ?_); refine with_tabW impl_grid_figure.tab2 impl_grid_figure.bits2 (fun HT_ HW_ => ?_)
   generalize w15.drew = w16 at BK184 BK185 HB hHeld ⊢
   refine zpu 0 (some 10) (fl 15 1) ?_
   refine zpu 2 (some 12) (fl 15 5) ?_
   refine zpu 4 (some 14) (fl 15 21) ?_
   refine zpu 5 (some 15) (fl 15 53) ?_
   refine zpu 6 (some 16) (fl 15 117) ?_
   refine zpu 8 (some 18) (fl 15 373) ?_
   refine ztk 1 (some 11) (fl 15 375) hHeld ?_
   refine ztk 3 (some 13) (fl 15 383) hHeld ?_
   refine ztk 9 (some 19) (fl 15 895) hHeld ?_
   refine zone 7 (some 17) (fl 15 1023) (fun K hK => ?_)
   refine goes_ Tryz.func70 (by kernel_rfl) rfl #[.int .u64 (Go.bits .and .u64 a1 (IntKind.u64.wrap ((ji5) - 1)))] (by rfl) rfl rfl (by (try simp only [List.map_toArray, List.map_cons, List.map_nil]); first | done | (simp only [hji5]; rfl) | rfl | (simp only [List.length_drop, List.length_take]; rfl)) ?_
   with_reducible refine (impl_set_listed.calls k (Go.bits .and .u64 a1 (IntKind.u64.wrap ((ji5) - 1))) t187 _ ?side1 A6.out).mono ?_
   (case side1 => exact tz_below HT.out zB)
   rintro e w17 ⟨v188, rfl, ho0, hb⟩
   refine ⟨_, rfl, ?_⟩
   have HO189 := Aside0.mk (Kd.R_lower ho0 (below_size zB))
   replace BK184 := zKb BK184 hb
   replace BK185 := zKb BK185 hb
   replace HB := zBb hb
   (try clear hb)
   (try clear hb2)
   (try clear hk)
   (try clear hi)
   (try clear ho0)
   refine hK.out _ _ zQ (fun hHeld => ?_)
   clear hK K
   refine znm ?_
   refine zone 10 (some 20) (fl 15 2047) (fun K hK => ?_)
   refine zgo Tryz.func69 #[.agg #[.int .i64 a0_0, .int .i64 a0_1]] ?_
   with_reducible refine (impl_grid_levels.calls a0_0 a0_1 t190 _ A7.out).mono ?_
   rintro e w18 ⟨rfl, hb⟩
   refine ⟨_, rfl, ?_⟩
   replace HO189 := Aside0.mk (Kd.R_below (zR HO189) hb)
   replace BK184 := zKb BK184 hb
   replace BK185 := zKb BK185 hb
   replace HB := zBb hb
   (try clear hb)
   (try clear hb2)
   (try clear hk)
   (try clear hi)
   refine hK.out _ _ zQ (fun hHeld => ?_)
   clear hK K
   refine znm ?_
   refine zpu 11 (some 21) (fl 15 4095) ?_
   refine zone 12 (some 22) (fl 15 8191) (fun K hK => ?_)
   refine goes_ Tryz.func70 (by kernel_rfl) rfl #[.int .u64 ji9] (by rfl) rfl rfl (by (try simp only [List.map_toArray, List.map_cons, List.map_nil]); first | done | (simp only [hji9]; rfl) | rfl | (simp only [List.length_drop, List.length_take]; rfl)) ?_
   with_reducible refine (impl_set_listed.calls k ji9 t191 _ ?side1 A10.out).mono ?_
   (case side1 => exact tz_below HT.out zB)
   rintro e w19 ⟨v192, rfl, ho0, hb⟩
   refine ⟨_, rfl, ?_⟩
   have HO193 := Aside0.mk (Kd.R_lower (Kd.R_new' ho0 (Kd.R_lt (zR HO189))) (below_size zB))
   replace HO189 := Aside0.mk (Kd.R_elder' (zR HO189) (Kd.R_base ho0) hb)
   replace BK184 := zKb BK184 hb
   replace BK185 := zKb BK185 hb
   replace HB := zBb hb
   (try clear hb)
   (try clear hb2)
   (try clear hk)
   (try clear hi)
   (try clear ho0)
   obtain ⟨Ao20, co20, eo20⟩ := Kd.R_slice HO193.out
   (first | subst eo20 | (injection eo20 with f1_ f2_ f3_; have f4_ := f1_.symm; have f5_ := f3_.symm; clear f1_ f2_ f3_; subst f4_; subst f5_))
   obtain ⟨Ao21, co21, eo21⟩ := Kd.R_slice HO189.out
   (first | subst eo21 | (injection eo21 with f1_ f2_ f3_; have f4_ := f1_.symm; have f5_ := f3_.symm; clear f1_ f2_ f3_; subst f4_; subst f5_))
   refine hK.out _ _ zQ (fun hHeld => ?_)
   clear hK K
   refine znm ?_
   refine zpu 13 (some 23) (fl 15 16383) ?_
   refine zone 14 none (fl 15 32767) (fun K hK => ?_)
   have hs22 : w19.cell? ⟨gb185, 0, none⟩ = some (.int .i64 0) := (blk_cell BK185.out 0).trans rfl
   have hfs22 := blk_frozen BK185.out 0
   have hns22_0 := NB184_185.out
   have hms22_0 := NB185_184.out
   have hs23 : w19.cell? ⟨gb185, 1, none⟩ = some (.int .i64 0) := (blk_cell BK185.out 1).trans rfl
   have hfs23 := blk_frozen BK185.out 1
   have hns23_0 := NB184_185.out
   have hms23_0 := NB185_184.out
   have hs24 : w19.cell? ⟨gb185, 2, none⟩ = some (.slice none 0 0) := (blk_cell BK185.out 2).trans rfl
   have hfs24 := blk_frozen BK185.out 2
   have hns24_0 := NB184_185.out
   have hms24_0 := NB185_184.out
   have hs25 : w19.cell? ⟨gb185, 3, none⟩ = some (.slice none 0 0) := (blk_cell BK185.out 3).trans rfl
   have hfs25 := blk_frozen BK185.out 3
   have hns25_0 := NB184_185.out
   have hms25_0 := NB185_184.out
   refine skip_ (w1 := ?_) (by rfl) rfl ?_ ?_
   rotate_left
   ·go_simp
    rfl
   refine hK.out _ _ ⟨((cell_far (p := ⟨gb185, _, none⟩) NB184_185.out _).trans (((cell_far (p := ⟨gb185, _, none⟩) NB184_185.out _).trans (((cell_far (p := ⟨gb185, _, none⟩) NB184_185.out _).trans (((cell_far (p := ⟨gb185, _, none⟩) NB184_185.out _).trans (hHeld.1)))))))), ((cell_far (p := ⟨gb185, _, none⟩) NB184_185.out _).trans (((cell_far (p := ⟨gb185, _, none⟩) NB184_185.out _).trans (((cell_far (p := ⟨gb185, _, none⟩) NB184_185.out _).trans (((cell_far (p := ⟨gb185, _, none⟩) NB184_185.out _).trans (hHeld.2))))))))⟩ (fun hHeld => ?_)
   clear hK K
   refine done_ (done_of HT_.out (by kernel_rfl)) ?_
   try go_wp2
   refine bodyPost_ret (results_cell_row rfl _ _ gb185 30 #[.int .i64 a0_0, .int .i64 a0_1, .slice Ao21 t187.length co21, .slice Ao20 t191.length co20] (0, 0) _ rfl (by (with_reducible repeat (first | refine blk_drewN ?_ _ | refine blk_drew ?_ | refine blk_alloc ?_ _)); refine blk_put (cs := #[.int .i64 a0_0, .int .i64 a0_1, .slice Ao21 t187.length co21, .slice none 0 0]) ?_ 3 _ rfl; (with_reducible repeat (first | refine blk_drewN ?_ _ | refine blk_drew ?_ | refine blk_alloc ?_ _)); refine blk_put (cs := #[.int .i64 a0_0, .int .i64 a0_1, .slice none 0 0, .slice none 0 0]) ?_ 2 _ rfl; (with_reducible repeat (first | refine blk_drewN ?_ _ | refine blk_drew ?_ | refine blk_alloc ?_ _)); refine blk_put (cs := #[.int .i64 a0_0, .int .i64 0, .slice none 0 0, .slice none 0 0]) ?_ 1 _ rfl; (with_reducible repeat (first | refine blk_drewN ?_ _ | refine blk_drew ?_ | refine blk_alloc ?_ _)); refine blk_put (cs := #[.int .i64 0, .int .i64 0, .slice none 0 0, .slice none 0 0]) ?_ 0 _ rfl; (with_reducible repeat (first | refine blk_drewN ?_ _ | refine blk_drew ?_ | refine blk_alloc ?_ _)); exact BK185.out) Tryz.underlying30 rfl (by kernel_rfl)) rfl ?_
   exact ⟨_, _, by first | rfl | (simp [errW_none, errW_some] <;> rfl) | (simp only [← hji5, ← hji9]; first | rfl | (simp [errW_none, errW_some] <;> rfl)) | (simp [*, errW_none, errW_some] <;> rfl), by (with_reducible repeat (first | apply Kd.R_alloc | apply Kd.R_drewN | apply Kd.R_drew)); exact Kd.R_mono (Kd.R_far (p := ⟨gb185, 3, none⟩) (Kd.R_far (p := ⟨gb185, 2, none⟩) (Kd.R_far (p := ⟨gb185, 1, none⟩) (Kd.R_far (p := ⟨gb185, 0, none⟩) (Kd.R_types HO189.out BK185.out (by decide)) (fun _ hk => hk.2) (.int .i64 a0_0)) (fun _ hk => hk.2) (.int .i64 a0_1)) (fun _ hk => hk.2) (.slice Ao21 t187.length co21)) (fun _ hk => hk.2) (.slice Ao20 t191.length co20)) (fun _ hk => hk.1.2), by (with_reducible repeat (first | apply Kd.R_alloc | apply Kd.R_drewN | apply Kd.R_drew)); exact Kd.R_mono (Kd.R_far (p := ⟨gb185, 3, none⟩) (Kd.R_far (p := ⟨gb185, 2, none⟩) (Kd.R_far (p := ⟨gb185, 1, none⟩) (Kd.R_far (p := ⟨gb185, 0, none⟩) (Kd.R_types HO193.out BK185.out (by decide)) (fun _ hk => hk.2) (.int .i64 a0_0)) (fun _ hk => hk.2) (.int .i64 a0_1)) (fun _ hk => hk.2) (.slice Ao21 t187.length co21)) (fun _ hk => hk.2) (.slice Ao20 t191.length co20)) (fun _ hk => hk.1.2), zB⟩
  ·rw [if_neg c8] at H
   exact absurd H (by simp)
 ·rw [if_neg c4] at H
  exact absurd H (by simp)

/-! ### impl_within: function 110 -/
set_option maxHeartbeats 8000000 in
set_option maxRecDepth 100000 in
theorem impl_within.calls (a0 : Int) (a1 : Int) (a2 : Int) (r : Bool) (w : World) (h : impl_within.f a0 a1 a2 = some r) :
  Calls Tryz.prog 110 #[.int .i64 a0, .int .i64 a1, .int .i64 a2] w fun e w' => e = .returned (.bool r) ∧ Drawn0 w w' := by
 have H : (if a1 ≤ a0 then (some (decide (a0 ≤ a2))) else (some false)) = some r := h
 clear h
 by_cases c4 : a1 ≤ a0
 ·rw [if_pos c4] at H
  have c4b0 : decide (a1 ≤ a0) = true := decide_eq_true c4
  clear c4
  obtain rfl := Option.some.inj H
  go_enter Tryz.func110, Tryz.ntmps110
  go_wp2
  go_ret
  exact ⟨by first | rfl | (simp; done) | (simp [*]; done), by repeat (first | exact Drawn0.refl _ | apply Drawn0.step)⟩
 ·rw [if_neg c4] at H
  have c4b0 : decide (a1 ≤ a0) = false := decide_eq_false c4
  clear c4
  obtain rfl := Option.some.inj H
  go_enter Tryz.func110, Tryz.ntmps110
  go_wp2
  go_ret
  exact ⟨by first | rfl | (simp; done) | (simp [*]; done), by repeat (first | exact Drawn0.refl _ | apply Drawn0.step)⟩

/-! ### impl_isGrid: function 152 -/
set_option maxHeartbeats 8000000 in
set_option maxRecDepth 100000 in
theorem impl_isGrid.calls (a0 : Int) (a1 : Int) (r : Bool) (w : World) (h : impl_isGrid.f a0 a1 = some r) :
  Calls Tryz.prog 152 #[.int .i64 a0, .int .i64 a1] w fun e w' => e = .returned (.bool r) ∧ Drawn0 w w' := by
 have H : ((impl_within.f a0 1 4).bind fun t194 => (if t194 = true then ((impl_within.f a1 1 4).bind fun t195 => (some t195)) else (some false))) = some r := h
 clear h
 replace H := Option.bind_eq_some_iff.mp H
 obtain ⟨t194, A30, H⟩ := H
 replace H : (if t194 = true then ((impl_within.f a1 1 4).bind fun t195 => (some t195)) else (some false)) = some r := H
 have A3 := Aside0.mk A30
 clear A30
 by_cases c4 : t194 = true
 ·subst c4
  have H1 : ((impl_within.f a1 1 4).bind fun t195 => (some t195)) = some r := by rw [if_pos rfl] at H; exact H
  clear H
  have H := H1
  clear H1
  replace H := Option.bind_eq_some_iff.mp H
  obtain ⟨t195, A50, H⟩ := H
  replace H : (some t195) = some r := H
  have A5 := Aside0.mk A50
  clear A50
  obtain rfl := Option.some.inj H
  go_enter Tryz.func152, Tryz.ntmps152
  go_wp2_with (first | ((with_reducible refine gate_callee (f := 110) rfl ?_); refine goesL_ (some 6) rfl rfl Tryz.func110 (by kernel_rfl) rfl #[.int .i64 a0, .int .i64 1, .int .i64 4] rfl zM ?_; (with_reducible refine (impl_within.calls a0 1 4 true _ A3.out).mono ?_); rintro e w' ⟨rfl, ⟨nd, rfl⟩⟩; refine ⟨_, rfl, ?_⟩) | (go_at_call 110; (with_reducible refine (impl_within.calls a1 1 4 t195 _ A5.out).mono ?_); rintro e w' ⟨rfl, ⟨nd, rfl⟩⟩))
  go_ret
  exact ⟨by first | rfl | (simp; done) | (simp [*]; done), by repeat (first | exact Drawn0.refl _ | apply Drawn0.step)⟩
 ·replace c4 := Bool.eq_false_iff.mpr c4
  subst c4
  have H1 : (some false) = some r := by rw [if_neg (show ¬ (false = true) by decide)] at H; exact H
  clear H
  have H := H1
  clear H1
  obtain rfl := Option.some.inj H
  go_enter Tryz.func152, Tryz.ntmps152
  go_wp2_with (first | ((with_reducible refine gate_callee (f := 110) rfl ?_); refine goesL_ (some 6) rfl rfl Tryz.func110 (by kernel_rfl) rfl #[.int .i64 a0, .int .i64 1, .int .i64 4] rfl zM ?_; (with_reducible refine (impl_within.calls a0 1 4 false _ A3.out).mono ?_); rintro e w' ⟨rfl, ⟨nd, rfl⟩⟩; refine ⟨_, rfl, ?_⟩))
  go_ret
  exact ⟨by first | rfl | (simp; done) | (simp [*]; done), by repeat (first | exact Drawn0.refl _ | apply Drawn0.step)⟩

/-! ### impl_isRising: function 153 -/
set_option maxHeartbeats 8000000 in
set_option maxRecDepth 100000 in
theorem impl_isRising.calls (k : Nat) (A0 : Option Addr) (c0 : Nat) (l0 : List Int) (r : Bool) (w : World) (hr0 : Kd.C (Kd.int .i64) w A0 l0.length l0) (hc0 : l0.length ≤ c0) (h : impl_isRising.f k l0 = some r) :
  Calls Tryz.prog 153 #[.slice A0 l0.length c0] w fun e w' => e = .returned (.bool r) ∧ Drawn0 w w' := by
 have HR0 := Aside0.mk hr0
 have HC0 := Aside0.mk hc0
 clear hr0 hc0
 have H : (impl_isRising.l0 k l0 1) = some r := h
 clear h
 have H' := Aside0.mk H
 clear H
 go_enter Tryz.func153, Tryz.ntmps153
 go_wp2
 repeat (go_quiet (fail); try go_wp2)
 go_loopg [3] k (fun kq v3 w' => ∃ (x3_1 : Int), v3 = .int .i64 x3_1 ∧ Aside0 (impl_isRising.l0 kq l0 x3_1 = some r) ∧ Aside0 (kq ≤ k) ∧ Drawn0 w w')
 case atStart => exact ⟨(1), zA, H', ⟨Nat.le_refl _⟩, by repeat (first | exact Drawn0.refl _ | apply Drawn0.step)⟩
 case round =>
  clear H'
  try clear c1
  obtain ⟨x3_1, rfl, HA, HK1, ⟨m1, rfl⟩⟩ := hrel
  cases gk with
  | zero => exact absurd HA.out (by simp [impl_isRising.l0])
  | succ k1 =>
   have H := HA.out
   clear HA
   simp only [impl_isRising.l0] at H
   by_cases c2 : x3_1 < (l0.length : Int)
   ·rw [if_pos c2] at H
    have c2b0 : decide (x3_1 < (l0.length : Int)) = true := decide_eq_true c2
    clear c2
    by_cases c3 : 0 ≤ x3_1
    ·rw [if_pos c3] at H
     have c3b0 : decide (0 ≤ x3_1) = true := decide_eq_true c3
     clear c3
     obtain ⟨ji4, hji4⟩ : ∃ j_ : Int, (wrap64 (x3_1 - 1)) = j_ := ⟨_, rfl⟩
     replace H : (if 0 ≤ (ji4) then (if (ji4) < (l0.length : Int) then (if (rd l0 x3_1) ≤ (rd l0 (ji4)) then (some false) else (impl_isRising.l0 k1 l0 (wrap64 (x3_1 + 1)))) else (none)) else (none)) = some r := by first | (rw [hji4] at H; exact H) | (simp only [hji4] at H ⊢; exact H)
     have hji4w : (IntKind.i64.wrap (x3_1 - 1)) = ji4 := (i64_w _).trans hji4
     by_cases c5 : 0 ≤ (ji4)
     ·rw [if_pos c5] at H
      have c5b0 : decide (0 ≤ (ji4)) = true := decide_eq_true c5
      clear c5
      by_cases c6 : (ji4) < (l0.length : Int)
      ·rw [if_pos c6] at H
       have c6b0 : decide ((ji4) < (l0.length : Int)) = true := decide_eq_true c6
       clear c6
       by_cases c7 : (rd l0 x3_1) ≤ (rd l0 (ji4))
       ·rw [if_pos c7] at H
        have c7b0 : decide ((rd l0 x3_1) ≤ (rd l0 (ji4))) = true := decide_eq_true c7
        clear c7
        obtain rfl := Option.some.inj H
        have p196 : 0 ≤ (x3_1 : Int) := of_decide_eq_true (by assumption)
        have q196 : x3_1 < (l0.length : Int) := of_decide_eq_true (by assumption)
        obtain ⟨ad196, e196, hx196_0⟩ := Kd.at_int HR0.out x3_1 p196 q196
        cases e196
        replace p196 := eq_true p196
        replace q196 := eq_true q196
        have p197 : 0 ≤ ((ji4) : Int) := of_decide_eq_true (by assumption)
        have q197 : (ji4) < (l0.length : Int) := of_decide_eq_true (by assumption)
        obtain ⟨ad197, e197, hx197_0⟩ := Kd.at_int HR0.out (ji4) p197 q197
        obtain rfl : ad196 = ad197 := (by injection e197)
        replace p197 := eq_true p197
        replace q197 := eq_true q197
        go_wp2
        repeat (go_quiet (fail); try go_wp2)
        go_ret
        exact ⟨by first | rfl | (simp; done) | (simp only [← hji4] <;> (first | rfl | simp)) | (simp [*]; done), by repeat (first | exact Drawn0.refl _ | apply Drawn0.step)⟩
       ·rw [if_neg c7] at H
        have c7b0 : decide ((rd l0 x3_1) ≤ (rd l0 (ji4))) = false := decide_eq_false c7
        clear c7
        have H' := Aside0.mk H
        clear H
        have p196 : 0 ≤ (x3_1 : Int) := of_decide_eq_true (by assumption)
        have q196 : x3_1 < (l0.length : Int) := of_decide_eq_true (by assumption)
        obtain ⟨ad196, e196, hx196_0⟩ := Kd.at_int HR0.out x3_1 p196 q196
        cases e196
        replace p196 := eq_true p196
        replace q196 := eq_true q196
        have p197 : 0 ≤ ((ji4) : Int) := of_decide_eq_true (by assumption)
        have q197 : (ji4) < (l0.length : Int) := of_decide_eq_true (by assumption)
        obtain ⟨ad197, e197, hx197_0⟩ := Kd.at_int HR0.out (ji4) p197 q197
        obtain rfl : ad196 = ad197 := (by injection e197)
        replace p197 := eq_true p197
        replace q197 := eq_true q197
        go_wp2
        repeat (go_quiet (fail); try go_wp2)
        go_roundg k1
        case measure => have := HK1.out; omega
        case rel => exact ⟨(wrap64 (x3_1 + 1)), zA, H', ⟨by have := HK1.out; omega⟩, by repeat (first | exact Drawn0.refl _ | apply Drawn0.step)⟩
      ·rw [if_neg c6] at H
       exact absurd H (by simp)
     ·rw [if_neg c5] at H
      exact absurd H (by simp)
    ·rw [if_neg c3] at H
     exact absurd H (by simp)
   ·rw [if_neg c2] at H
    have c2b0 : decide (x3_1 < (l0.length : Int)) = false := decide_eq_false c2
    clear c2
    obtain rfl := Option.some.inj H
    go_wp2
    repeat (go_quiet (fail); try go_wp2)
    go_ret
    exact ⟨by first | rfl | (simp; done) | (simp [*]; done), by repeat (first | exact Drawn0.refl _ | apply Drawn0.step)⟩

/-! ### impl_areWithin: function 154 -/
/-- what the predicate of areWithin does -/
def awPred (p : Int → Bool) (B1 B2 : Nat) (w : World) : Prop :=
 ∀ (W : World) (x : Int), Below w.heap.size w W → Calls Tryz.prog 163 #[.int .i64 x, .pointer (some ⟨B1, 0, none⟩), .pointer (some ⟨B2, 0, none⟩)] W fun e W' => e = .returned (.bool (p x)) ∧ Drawn0 W W'

theorem aw_drew (w : World) (n : Nat) : Below w.heap.size w (w.drewN n) := pw_below_drewN (Below.refl _ _) n
theorem aw_hit (l : List Int) (p : Int → Bool) (k : Nat) (h : k < l.length) (hp : p (rd l k) = true) : l.any p = true := by
 rw [List.any_eq_true]
 refine ⟨rd l k, ?_, hp⟩
 have : rd l (k : Int) = l[k] := by simp [rd, h]
 rw [this]; exact List.getElem_mem h
theorem aw_miss (l : List Int) (p : Int → Bool) (hp : ∀ j : Nat, j < l.length → p (rd l j) = false) : l.any p = false := by
 rw [List.any_eq_false]
 intro x hx
 obtain ⟨j, hj, rfl⟩ := List.getElem_of_mem hx
 have := hp j hj
 have e : rd l (j : Int) = l[j] := by simp [rd, hj]
 rw [e] at this; rw [this]; simp

/-- an index that tells whether an element meets p -/
structure AwTells (l : List Int) (p : Int → Bool) (i : Int) : Prop where mk :: (out : 0 ≤ i ↔ l.any p = true)

set_option maxHeartbeats 2000000 in
theorem aw_idx (B1 B2 : Nat) (p : Int → Bool)
  (A : Option Addr) (c : Nat) (l : List Int) (w : World) (hr : Kd.C (Kd.int .i64) w A l.length l) (hp : awPred p B1 B2 w) :
  Calls Tryz.prog 165 #[.slice A l.length c, .func (.func 163) #[] #[.pointer (some ⟨B1, 0, none⟩), .pointer (some ⟨B2, 0, none⟩)]] w fun e w' => (∃ i : Int, e = .returned (.int .i64 i) ∧ AwTells l p i) ∧ Drawn0 w w' := by
 have hbig : l.length ≤ 9223372036854775807 := Kd.C_max hr
 have hpAt : ∀ (x : Int) (q : Nat), Calls Tryz.prog 163 #[.int .i64 x, .pointer (some ⟨B1, 0, none⟩), .pointer (some ⟨B2, 0, none⟩)] (w.drewN q) fun e w' => e = .returned (.bool (p x)) ∧ Drawn0 (w.drewN q) w' := fun x q => hp _ x (aw_drew _ _)
 clear hp
 go_enter Tryz.func165, Tryz.ntmps165
 go_wp2
 go_loopg [5, 8] l.length (fun gg _ s8 wr => ∃ kk q : Nat, kk ≤ l.length ∧ l.length - kk ≤ gg ∧ s8 = .int .i64 kk ∧ wr = w.drewN q ∧ Aside0 (∀ j, j < kk → p (rd l j) = false))
 case atStart => exact ⟨0, 0, Nat.zero_le _, by omega, rfl, rfl, ⟨fun j hj => absurd hj (Nat.not_lt_zero _)⟩⟩
 case round =>
  obtain ⟨kk, q, hkk, hg, rfl, rfl, A0⟩ := hrel
  by_cases hlt : kk < l.length
  ·have hltz : (kk : Int) < (l.length : Int) := by omega
   obtain ⟨ad, rfl, hcell0⟩ := Kd.at_int (Kd.C_drewN hr q) kk (by omega) hltz
   rw [Int.toNat_natCast] at hcell0
   have hcell : (w.drewN q).cell? (ad.add kk) = some (.int .i64 (rd l kk)) := hcell0
   clear hcell0
   generalize hy : rd l kk = y at hcell
   have B := Aside0.mk hy
   clear hy
   have hcall := hpAt y
   cases hq : p y with
   | true =>
    rw [hq] at hcall
    go_wp2_with (go_at_call 163; refine (hcall _).mono ?_; rintro e w' ⟨rfl, ⟨q', rfl⟩⟩)
    go_ret
    refine ⟨⟨_, rfl, ?_⟩, ⟨_, rfl⟩⟩
    exact ⟨⟨fun _ => aw_hit l p kk hlt (by rw [B.out]; exact hq), fun _ => Int.natCast_nonneg _⟩⟩
   | false =>
    rw [hq] at hcall
    go_wp2_with (go_at_call 163; refine (hcall _).mono ?_; rintro e w' ⟨rfl, ⟨q', rfl⟩⟩)
    go_roundg (l.length - (kk + 1))
    case measure => omega
    case rel =>
     refine ⟨kk + 1, _, by omega, by omega, by go_num, rfl, ⟨fun j hj => ?_⟩⟩
     by_cases e : j = kk
     ·subst e
      rw [B.out]; exact hq
     ·exact A0.out j (by omega)
  ·have hltz : ¬ (kk : Int) < (l.length : Int) := by omega
   have : kk = l.length := by omega
   subst this
   go_wp2
   go_ret
   refine ⟨⟨_, rfl, ?_⟩, ⟨_, rfl⟩⟩
   exact ⟨by rw [aw_miss l p A0.out]; simp⟩

set_option maxHeartbeats 2000000 in
theorem aw_has (B1 B2 : Nat) (p : Int → Bool)
  (A : Option Addr) (c : Nat) (l : List Int) (w : World) (hr : Kd.C (Kd.int .i64) w A l.length l) (hp : awPred p B1 B2 w) :
  Calls Tryz.prog 162 #[.slice A l.length c, .func (.func 163) #[] #[.pointer (some ⟨B1, 0, none⟩), .pointer (some ⟨B2, 0, none⟩)]] w fun e w' => e = .returned (.bool (l.any p)) ∧ Drawn0 w w' := by
 have hC := aw_idx B1 B2 p A c l w hr hp
 clear hr hp
 go_enter Tryz.func162, Tryz.ntmps162
 go_wp2_with (go_at_call 165; refine hC.mono ?_; rintro e w' ⟨⟨i, rfl, HI⟩, ⟨q, rfl⟩⟩)
 go_ret
 refine ⟨?_, ⟨_, rfl⟩⟩
 rw [show decide (0 ≤ i) = l.any p from by rw [Bool.eq_iff_iff]; simp only [decide_eq_true_eq]; exact HI.out]
 rfl

set_option maxHeartbeats 2000000 in
theorem aw_one (x lo hi : Int) (B1 B2 : Nat) (W : World) (h1 : W.cell? ⟨B1, 0, none⟩ = some (.int .i64 lo)) (h2 : W.cell? ⟨B2, 0, none⟩ = some (.int .i64 hi)) :
  Calls Tryz.prog 163 #[.int .i64 x, .pointer (some ⟨B1, 0, none⟩), .pointer (some ⟨B2, 0, none⟩)] W fun e W' => e = .returned (.bool (awP lo hi x)) ∧ Drawn0 W W' := by
 by_cases c1 : lo ≤ x <;> by_cases c2 : x ≤ hi <;> (
  go_enter Tryz.func163, Tryz.ntmps163
  go_wp2_with (go_in)
  go_ret
  exact ⟨by simp [c1, c2, awP], ⟨0, rfl⟩⟩)

set_option maxHeartbeats 2000000 in
theorem impl_areWithin.calls (A0 : Option Addr) (c0 : Nat) (l0 : List Int) (a1 : Int) (a2 : Int) (r : Bool) (w : World) (hr0 : Kd.C (Kd.int .i64) w A0 l0.length l0) (hc0 : l0.length ≤ c0) (h : impl_areWithin.f l0 a1 a2 = some r) :
  Calls Tryz.prog 154 #[.slice A0 l0.length c0, .int .i64 a1, .int .i64 a2] w fun e w' => e = .returned (.bool r) ∧ Below w.heap.size w w' := by
 have hb : Below w.heap.size w ((w.alloc (.cells #[.int .i64 a1] 3)).alloc (.cells #[.int .i64 a2] 3)) := ((Below.refl _ _).alloc (Nat.le_refl _) _).alloc (by simp) _
 have HR := Aside0.mk (Kd.C_below hr0 hb)
 clear hr0
 obtain rfl := Option.some.inj h
 clear h
 have hp : awPred (awP a1 a2) w.heap.size (w.heap.size + 1) ((w.alloc (.cells #[.int .i64 a1] 3)).alloc (.cells #[.int .i64 a2] 3)) := by
  intro W x hW
  refine aw_one x a1 a2 _ _ W ?_ ?_
  ·refine pw_cell_below hW ?_
   rw [World.cell?_alloc_past _ _ _ (by simp), World.cell?_alloc_at _ _ _ _ rfl]; rfl
  ·refine pw_cell_below hW ?_
   rw [World.cell?_alloc_at _ _ _ _ (by simp)]; rfl
 have HC := Aside0.mk (aw_has _ _ _ A0 c0 l0 _ HR.out hp)
 have HB := Aside0.mk hb
 clear hp hb
 have hmf : ∀ (fn : Fn) (first cap : Array Value) (w : World), (Instr.makeFunc fn first cap).run Tryz.prog w = .ok (.func fn first cap) w := fun _ _ _ _ => rfl
 go_enter Tryz.func154, Tryz.ntmps154
 go_wp2_with (go_at_call 162; refine HC.out.mono ?_; rintro e w' ⟨rfl, ⟨q, rfl⟩⟩)
 go_ret
 exact ⟨rfl, pw_below_drewN HB.out _⟩

end Go.Proofs.YtopifdmaaibcnaaGreatDoor.H
