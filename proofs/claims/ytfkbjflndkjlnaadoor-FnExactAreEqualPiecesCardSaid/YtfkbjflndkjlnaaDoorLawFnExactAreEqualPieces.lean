/- For every figure the law FnExactAreEqualPieces returns true and leaves its argument as it was: the program's AreEqualPieces tells what the reference's tells. Conditions: none beyond the row's own; the tables that it reads are tied to the program's text. -/
import Derived.Test.YtfkbjflndkjlnaaDoorRows
import Derived.Test.YtfkbjflndkjlnaaDoorPd
import Derived.Test.YtfkbjflndkjlnaaDoorPc0
import Derived.Test.YtfkbjflndkjlnaaDoorPc1
import Derived.Test.YtfkbjflndkjlnaaDoorPc8
import Derived.Test.YtfkbjflndkjlnaaDoorPc9
import Derived.Test.YtfkbjflndkjlnaaDoorCards
import Derived.Test.YtfkbjflndkjlnaaDoorTie
import Derived.Test.YtfkbjflndkjlnaaDoorPy
import Derived.Test.YtfkbjflndkjlnaaDoorPz
import Derived.WalkKit
import Derived.ProofKit
import Derived.OpenShut
import Derived.ShutString
import Derived.ChangeOld
import Derived.Below
import Derived.SizedLaws
import Derived.Lib.SmallJoins
import Derived.Deep.LoopGhost
import Derived.Deep.Draws
import Derived.Deep.RegionHeld3
import Derived.Lib.LaidIn
import Derived.Lib.LaidTab
import Derived.Deep.DeepHandedRow
import Derived.SevenTiedAt
namespace Go.Proofs.YtfkbjflndkjlnaaDoor.P
open Go.ChangeShapes Go.WideShapes Go.ChangeAt Go.RowKit Go.Joins
open Go.ChangeMaps (open_string shut_string)
open Go.Proofs.YtfkbjflndkjlnaaDoorW.PrintWords Go.Proofs.YtfkbjflndkjlnaaDoorW.PrintLast Go.Proofs.YtfkbjflndkjlnaaDoorW.PrintMore
attribute [local go_sem] max2_int min2_int max_two min_two max_three min_three max_four min_four
set_option linter.unusedVariables false
set_option linter.unusedSimpArgs false
set_option linter.unnecessarySimpa false
theorem cut_past {P : Program} (t e : TypeId) {i : TypeInfo} (ht : P.underlying t = some (.slice e)) (hi : P.info? e = some i) (A : Option Addr) (n c : Nat) (j : Int) (h0 : 0 ≤ j) (hm : j ≤ c) :
    ∀ W : World, (Instr.slice t (.slice A n c) none (some (.int .i64 j)) none).run P W = .ok (.slice A j.toNat c) W := by
  intro W
  have hel : P.elem t = e := by simp [Program.elem, ht]
  have hu : P.underlying t = some (.slice (P.elem t)) := by rw [hel]; exact ht
  have ha : (A.map fun x => x.add 0) = A := by cases A <;> simp [Addr.add]
  rw [run_slice_h W t A n c hu .i64 j h0 hm, hel]
  simp [sizeOf, typeInfo, hi, sliced, Result.andThen, ha]
theorem spare_length (l : List Int) : (spare l).length = l.length + room l.length := by simp [spare]
theorem Spare.readsAll {base : Nat} {w' : World} {b : Nat} {l : List Int} (h : Spare base w' b l) (hlen : l.length ≤ 1000000) : Kd.C (Kd.int .i64) w' (some ⟨b, 0, none⟩) (spare l).length (spare l) := by
  have hroom : room l.length ≤ l.length + 1 := by unfold room; split <;> (try split) <;> omega
  refine Kd.C_of_reads (d := (0 : Int)) (h1 := fun _ => rfl) ?_
  refine ⟨rfl, by rw [spare_length]; omega, fun hp => ⟨_, rfl, fun j hj => ?_⟩⟩
  rw [Go.Proofs.YtfkbjflndkjlnaaDoorW.PrintWords.add_plain, blk_cell h.blk j, numCells_get _ _ hj]
theorem eq_same (l : List Int) (h : l.length ≤ 9000000) : ∃ k, laws_eqIntS.f k l l = some true := by
  have key : ∀ d i : Nat, i + d = l.length → laws_eqIntS.l0 (d + 1) l l i = some true := by
    intro d
    induction d with
    | zero =>
      intro i hi
      simp only [laws_eqIntS.l0]
      rw [if_neg (by omega)]
    | succ d ih =>
      intro i hi
      have := ih (i + 1) (by omega)
      rw [laws_eqIntS.l0, if_pos (by omega), if_pos (by omega), if_pos (by omega), if_pos rfl]
      rw [show wrap64 ((i : Int) + 1) = ((i + 1 : Nat) : Int) by unfold wrap64; omega]
      exact this
  refine ⟨l.length + 1, ?_⟩
  unfold laws_eqIntS.f
  rw [if_pos rfl]
  exact key l.length 0 (by omega)
set_option maxHeartbeats 4000000 in
set_option maxRecDepth 100000 in
theorem intact_ok (base1 base2 b1 b2 : Nat) (l : List Int) (w : World) (s1 : Spare base1 w b1 l) (s2 : Spare base2 w b2 l) (hlen : l.length ≤ 1000000) :
    Calls Tryd.prog 45 #[.slice (some ⟨b1, 0, none⟩) l.length (l.length + room l.length), .slice (some ⟨b2, 0, none⟩) l.length (l.length + room l.length)] w fun e w' => e = .returned (.bool true) ∧ Drawn0 w w' := by
  have hroom : room l.length ≤ l.length + 1 := by unfold room; split <;> (try split) <;> omega
  have RC := fun W => room_calls l.length hlen W
  obtain ⟨k, hk⟩ := eq_same (spare l) (by rw [spare_length]; omega)
  have EC := fun W h1 h2 => laws_eqIntS.calls k (some ⟨b1, 0, none⟩) (l.length + room l.length) (spare l) (some ⟨b2, 0, none⟩) (l.length + room l.length) (spare l) true W h1 (by rw [spare_length]; omega) h2 (by rw [spare_length]; omega) hk
  rw [spare_length] at EC
  have R1 := s1.readsAll hlen
  have R2 := s2.readsAll hlen
  rw [spare_length] at R1 R2
  obtain ⟨m, hm⟩ : ∃ m, room l.length = m := ⟨_, rfl⟩
  rw [hm] at RC hroom EC R1 R2
  rw [hm]
  have c1 := cut_past (P := Tryd.prog) 25 3 Tryd.underlying25 (Option.map_eq_some_iff.1 info3).choose_spec.1 (some ⟨b1, 0, none⟩) l.length (l.length + m) ((l.length : Int) + m) (by omega) (by omega)
  have c2 := cut_past (P := Tryd.prog) 25 3 Tryd.underlying25 (Option.map_eq_some_iff.1 info3).choose_spec.1 (some ⟨b2, 0, none⟩) l.length (l.length + m) ((l.length : Int) + m) (by omega) (by omega)
  rw [show ((l.length : Int) + m).toNat = l.length + m by omega] at c1 c2
  have EA := Aside0.mk EC
  have RA1 := Aside0.mk R1
  have RA2 := Aside0.mk R2
  clear EC R1 R2 s1 s2 hm hk
  go_enter Tryd.func45, Tryd.ntmps45
  go_wp2_with (go_at_call 74; refine (RC _).mono ?_; rintro e w' ⟨rfl, ⟨nd, rfl⟩⟩)
  go_quiet ((go_at_call 82; (with_reducible refine (EA.out _ (Kd.C_drewN RA1.out _) (Kd.C_drewN RA2.out _)).mono ?_); rintro e w' ⟨rfl, ⟨nd, rfl⟩⟩; (try first | exact ⟨rfl, _, World.drewN_drewN _ _ _⟩ | exact ⟨rfl, _, Eq.trans (World.drewN_drewN _ _ _) (congrArg (World.drewN _) (Nat.add_assoc _ _ _))⟩)))
  go_wp2
  go_ret
  exact ⟨rfl, by repeat (first | exact Drawn0.refl _ | apply Drawn0.step)⟩
theorem heap_at2 (w : World) (o0 o1 : Obj) : ((w.alloc o0).alloc o1).heap[w.heap.size]? = some o0 ∧ ((w.alloc o0).alloc o1).heap[w.heap.size + 1]? = some o1 := by
  refine ⟨?_, ?_⟩
  · show ((w.heap.push o0).push o1)[w.heap.size]? = _
    rw [Array.getElem?_push, if_neg (by simp), Array.getElem?_push, if_pos rfl]
  · show ((w.heap.push o0).push o1)[w.heap.size + 1]? = _
    rw [Array.getElem?_push, if_pos (by simp)]
theorem SpareFig.later {base : Nat} {w w2 : World} {v2 v3 : Value} {l2 l3 : List Int} (h : SpareFig base w v2 v3 l2 l3) (hb : Below w.heap.size w w2) : SpareFig base w2 v2 v3 l2 l3 := by
  obtain ⟨b2, b3, h1, h2, h3, h4, h5⟩ := h.out
  exact ⟨b2, b3, h1, h2, h3, h4.later hb, h5.later hb⟩
theorem SpareFig.low {base base' : Nat} {w : World} {v2 v3 : Value} {l2 l3 : List Int} (h : SpareFig base w v2 v3 l2 l3) (hb : base' ≤ base) : SpareFig base' w v2 v3 l2 l3 := by
  obtain ⟨b2, b3, h1, h2, h3, h4, h5⟩ := h.out
  exact ⟨b2, b3, h1, h2, h3, h4.low hb, h5.low hb⟩
set_option maxHeartbeats 4000000 in
set_option maxRecDepth 100000 in
theorem intactfig_ok (a0 a1 : Int) (base1 base2 : Nat) (v2 v3 u2 u3 : Value) (l2 l3 : List Int) (w : World) (s1 : SpareFig base1 w v2 v3 l2 l3) (s2 : SpareFig base2 w u2 u3 l2 l3) (h2 : l2.length ≤ 1000000) (h3 : l3.length ≤ 1000000) :
    Calls Tryd.prog 18 #[.agg #[.int .i64 a0, .int .i64 a1, v2, v3], .agg #[.int .i64 a0, .int .i64 a1, u2, u3]] w fun e w' => e = .returned (.bool true) ∧ Below w.heap.size w w' := by
  obtain ⟨b2, b3, rfl, rfl, _, p2, p3⟩ := s1.out
  obtain ⟨d2, d3, rfl, rfl, _, q2, q3⟩ := s2.out
  have C2 := fun W hb => intact_ok base1 base2 b2 d2 l2 W (p2.later hb) (q2.later hb) h2
  have C3 := fun W hb => intact_ok base1 base2 b3 d3 l3 W (p3.later hb) (q3.later hb) h3
  have hu := Tryd.underlying30
  clear p2 p3 q2 q3 s1 s2
  go_enter Tryd.func18, Tryd.ntmps18
  go_wp2_with fail
  refine (C2 _ (below_alloc (below_alloc (Below.refl _ _) _) _)).mono ?_
  rintro e w' ⟨rfl, ⟨nd, rfl⟩⟩
  go_wp2_with fail
  refine (C3 _ (pw_below_drewN (below_alloc (below_alloc (Below.refl _ _) _) _) _)).mono ?_
  rintro e w' ⟨rfl, ⟨nd2, rfl⟩⟩
  go_wp2_with fail
  go_ret
  exact ⟨rfl, by repeat (first | exact Below.refl _ _ | apply below_alloc | apply pw_below_drewN | apply below_drew1)⟩

theorem blk_cells5 {w : World} {g t : Nat} {c0 c1 c2 c3 c4 : Value} (h : w.heap[g]? = some (.cells #[c0, c1, c2, c3, c4] t (0, 0))) : w.cell? ⟨g, 0, none⟩ = some c0 ∧ w.cell? ⟨g, 1, none⟩ = some c1 ∧ w.cell? ⟨g, 2, none⟩ = some c2 ∧ w.cell? ⟨g, 3, none⟩ = some c3 ∧ w.cell? ⟨g, 4, none⟩ = some c4 :=
  ⟨(blk_cell h 0).trans rfl, (blk_cell h 1).trans rfl, (blk_cell h 2).trans rfl, (blk_cell h 3).trans rfl, (blk_cell h 4).trans rfl⟩
theorem SpareFig.reads {base : Nat} {w : World} {v2 v3 : Value} {l2 l3 : List Int} (h : SpareFig base w v2 v3 l2 l3) (h2 : l2.length ≤ 1000000) (h3 : l3.length ≤ 1000000) :
    ∃ A2 c2 A3 c3, v2 = .slice A2 l2.length c2 ∧ v3 = .slice A3 l3.length c3 ∧ l2.length ≤ c2 ∧ l3.length ≤ c3 ∧ Kd.C (Kd.int .i64) w A2 l2.length l2 ∧ Kd.C (Kd.int .i64) w A3 l3.length l3 := by
  obtain ⟨b2, b3, e2, e3, _, p2, p3⟩ := h.out
  exact ⟨_, _, _, _, e2, e3, by omega, by omega, p2.reads h2, p3.reads h3⟩
theorem blk_later {w w' : World} {g : Nat} {o : Obj} (h : w.heap[g]? = some o) (hb : Below w.heap.size w w') : w'.heap[g]? = some o := (hb.block g (blk_lt h)).trans h

set_option maxHeartbeats 16000000 in
set_option maxRecDepth 100000 in
theorem law_AreEqualPieces (ks ki : Nat) (r0 : Bool) (r1 : Bool) (z0 : Int) (a0 a1 : Int) (A2 : Option Addr) (c2 : Nat) (l2 : List Int) (A3 : Option Addr) (c3 : Nat) (l3 : List Int) (w : World) (hT : TzTab w)
    (hr2 : Kd.C (Kd.int .i64) w A2 l2.length l2) (hr3 : Kd.C (Kd.int .i64) w A3 l3.length l3) (hc2 : l2.length ≤ c2) (hc3 : l3.length ≤ c3)
    (hsz0 : laws_szFigure.f a0 a1 l2 l3 1000000 = some z0)
    (hlen : 0 ≤ z0 → l2.length ≤ 1000000 ∧ l3.length ≤ 1000000)
    (hs : 0 ≤ z0 → spec_AreEqualPieces.f ks a0 a1 l2 l3 = some (r0, r1)) (hi : 0 ≤ z0 → impl_AreEqualPieces.f ki a0 a1 l2 l3 = some (r0, r1)) :
    Calls Tryd.prog 7 #[.agg #[.int .i64 a0, .int .i64 a1, .slice A2 l2.length c2, .slice A3 l3.length c3]] w fun e w' => e = .returned (.bool true) ∧ Below w.heap.size w w' := by
  have SZ0 := fun W hr2 hr3 => laws_szFigure.calls a0 a1 A2 c2 l2 A3 c3 l3 1000000 z0 W hr2 hc2 hr3 hc3 hsz0
  have HR2 := Aside0.mk hr2
  have HR3 := Aside0.mk hr3
  have HT := Aside0.mk hT
  clear hT
  have huFigure := Tryd.underlying27
  have hvFigure := Tryd.underlying30
  clear hr2 hr3 hsz0
  by_cases hneg0 : z0 < 0
  · have hdec0 : decide (z0 < 0) = true := decide_eq_true hneg0
    clear hs hi hlen
    go_enter Tryd.func7, Tryd.ntmps7
    go_wp2_with fail
    refine (SZ0 _ (Kd.C_alloc HR2.out _) (Kd.C_alloc HR3.out _)).mono ?_
    rintro e w1 ⟨rfl, hb⟩
    have BX0_1 := Aside0.mk (blk_later (heap_new w _) hb)
    have HB_1 := Aside0.mk (below_step (below_alloc (Below.refl w.heap.size w) _) hb)
    clear hb
    have k0_0 : w1.cell? ⟨w.heap.size, 0, none⟩ = some (.int .i64 a0) := (blk_cell BX0_1.out 0).trans rfl
    have k0_1 : w1.cell? ⟨w.heap.size, 1, none⟩ = some (.int .i64 a1) := (blk_cell BX0_1.out 1).trans rfl
    have k0_2 : w1.cell? ⟨w.heap.size, 2, none⟩ = some (.slice A2 l2.length c2) := (blk_cell BX0_1.out 2).trans rfl
    have k0_3 : w1.cell? ⟨w.heap.size, 3, none⟩ = some (.slice A3 l3.length c3) := (blk_cell BX0_1.out 3).trans rfl
    go_wp2_with fail
    go_ret
    exact ⟨rfl, HB_1.out⟩
  · have hdec0 : decide (z0 < 0) = false := decide_eq_false hneg0
    obtain ⟨hl2, hl3⟩ := hlen (by omega)
    replace hs := hs (by omega)
    replace hi := hi (by omega)
    clear hlen
    have TO0 := fun W hr2 hr3 => tofig_full a0 a1 A2 c2 l2 A3 c3 l3 W hr2 hr3 hl2 hl3
    have TB0 := fun W hr2 hr3 => laws_toFigure.calls a0 a1 A2 c2 l2 A3 c3 l3 true a0 a1 l2 l3 W hr2 hc2 hr3 hc3 (by simp [laws_toFigure.f, laws_toFigure.f, laws_toIntS.f, hl2, hl3])
    have SP := fun A2 c2 A3 c3 W hr2 hc2 hr3 hc3 => spec_AreEqualPieces.calls ks a0 a1 A2 c2 l2 A3 c3 l3 r0 r1 W hr2 hc2 hr3 hc3 hs
    have IM := fun A2 c2 A3 c3 W hT hr2 hc2 hr3 hc3 => impl_AreEqualPieces.calls ki a0 a1 A2 c2 l2 A3 c3 l3 r0 r1 W hT hr2 hc2 hr3 hc3 hi
    clear hs hi
    go_enter Tryd.func7, Tryd.ntmps7
    go_wp2_with fail
    refine (SZ0 _ (Kd.C_alloc HR2.out _) (Kd.C_alloc HR3.out _)).mono ?_
    rintro e w1 ⟨rfl, hb⟩
    have BX0_1 := Aside0.mk (blk_later (heap_new w _) hb)
    have HB_1 := Aside0.mk (below_step (below_alloc (Below.refl w.heap.size w) _) hb)
    clear hb
    have k0_0 : w1.cell? ⟨w.heap.size, 0, none⟩ = some (.int .i64 a0) := (blk_cell BX0_1.out 0).trans rfl
    have k0_1 : w1.cell? ⟨w.heap.size, 1, none⟩ = some (.int .i64 a1) := (blk_cell BX0_1.out 1).trans rfl
    have k0_2 : w1.cell? ⟨w.heap.size, 2, none⟩ = some (.slice A2 l2.length c2) := (blk_cell BX0_1.out 2).trans rfl
    have k0_3 : w1.cell? ⟨w.heap.size, 3, none⟩ = some (.slice A3 l3.length c3) := (blk_cell BX0_1.out 3).trans rfl
    go_wp2_with fail
    refine (TO0 _ (Kd.C_below HR2.out (HB_1.out)) (Kd.C_below HR3.out (HB_1.out))).mono ?_
    rintro e w2 ⟨v2, v3, rfl, sf, hb⟩
    have BX0_2 := Aside0.mk (blk_later (BX0_1.out) hb)
    have HB_2 := Aside0.mk (below_step (HB_1.out) hb)
    obtain ⟨B2, e2, B3, e3, rfl, rfl, q2, q3, r2, r3⟩ := sf.reads hl2 hl3
    clear hb sf
    clear k0_0 k0_1 k0_2 k0_3
    have k0_0 : w2.cell? ⟨w.heap.size, 0, none⟩ = some (.int .i64 a0) := (blk_cell BX0_2.out 0).trans rfl
    have k0_1 : w2.cell? ⟨w.heap.size, 1, none⟩ = some (.int .i64 a1) := (blk_cell BX0_2.out 1).trans rfl
    have k0_2 : w2.cell? ⟨w.heap.size, 2, none⟩ = some (.slice A2 l2.length c2) := (blk_cell BX0_2.out 2).trans rfl
    have k0_3 : w2.cell? ⟨w.heap.size, 3, none⟩ = some (.slice A3 l3.length c3) := (blk_cell BX0_2.out 3).trans rfl
    go_wp2_with fail
    refine (SP _ _ _ _ _ r2 q2 r3 q3).mono ?_
    rintro e w3 ⟨rfl, hb⟩
    have BX0_3 := Aside0.mk (blk_later (BX0_2.out) hb)
    have HB_3 := Aside0.mk (below_step (HB_2.out) hb)
    clear hb r2 q2 r3 q3
    clear k0_0 k0_1 k0_2 k0_3
    have k0_0 : w3.cell? ⟨w.heap.size, 0, none⟩ = some (.int .i64 a0) := (blk_cell BX0_3.out 0).trans rfl
    have k0_1 : w3.cell? ⟨w.heap.size, 1, none⟩ = some (.int .i64 a1) := (blk_cell BX0_3.out 1).trans rfl
    have k0_2 : w3.cell? ⟨w.heap.size, 2, none⟩ = some (.slice A2 l2.length c2) := (blk_cell BX0_3.out 2).trans rfl
    have k0_3 : w3.cell? ⟨w.heap.size, 3, none⟩ = some (.slice A3 l3.length c3) := (blk_cell BX0_3.out 3).trans rfl
    go_wp2_with fail
    refine (TO0 _ (Kd.C_below HR2.out (HB_3.out)) (Kd.C_below HR3.out (HB_3.out))).mono ?_
    rintro e w4 ⟨v2, v3, rfl, sf, hb⟩
    have BX0_4 := Aside0.mk (blk_later (BX0_3.out) hb)
    have HB_4 := Aside0.mk (below_step (HB_3.out) hb)
    have SF0_4 := Aside0.mk sf
    obtain ⟨B2, e2, B3, e3, rfl, rfl, q2, q3, r2, r3⟩ := sf.reads hl2 hl3
    clear hb sf
    clear k0_0 k0_1 k0_2 k0_3
    have k0_0 : w4.cell? ⟨w.heap.size, 0, none⟩ = some (.int .i64 a0) := (blk_cell BX0_4.out 0).trans rfl
    have k0_1 : w4.cell? ⟨w.heap.size, 1, none⟩ = some (.int .i64 a1) := (blk_cell BX0_4.out 1).trans rfl
    have k0_2 : w4.cell? ⟨w.heap.size, 2, none⟩ = some (.slice A2 l2.length c2) := (blk_cell BX0_4.out 2).trans rfl
    have k0_3 : w4.cell? ⟨w.heap.size, 3, none⟩ = some (.slice A3 l3.length c3) := (blk_cell BX0_4.out 3).trans rfl
    have szb := blk_lt BX0_4.out
    go_wp2_with fail
    refine (IM _ _ _ _ _ (tz_below HT.out (below_alloc (HB_4.out) _)) (Kd.C_alloc r2 _) q2 (Kd.C_alloc r3 _) q3).mono ?_
    rintro e w5 ⟨rfl, hb⟩
    have BX0_5 := Aside0.mk (blk_later (blk_alloc BX0_4.out _) hb)
    have HB_5 := Aside0.mk (below_step (below_alloc (HB_4.out) _) hb)
    have BXx0_5 := Aside0.mk (blk_later (heap_new w4 _) hb)
    have SF0_5 := Aside0.mk (SF0_4.out.later (below_step (below_alloc (Below.refl _ _) _) hb))
    clear hb r2 q2 r3 q3
    clear k0_0 k0_1 k0_2 k0_3 szb
    have k0_0 : w5.cell? ⟨w.heap.size, 0, none⟩ = some (.int .i64 a0) := (blk_cell BX0_5.out 0).trans rfl
    have k0_1 : w5.cell? ⟨w.heap.size, 1, none⟩ = some (.int .i64 a1) := (blk_cell BX0_5.out 1).trans rfl
    have k0_2 : w5.cell? ⟨w.heap.size, 2, none⟩ = some (.slice A2 l2.length c2) := (blk_cell BX0_5.out 2).trans rfl
    have k0_3 : w5.cell? ⟨w.heap.size, 3, none⟩ = some (.slice A3 l3.length c3) := (blk_cell BX0_5.out 3).trans rfl
    have kx0_0 : w5.cell? ⟨w4.heap.size, 0, none⟩ = some (.int .i64 a0) := (blk_cell BXx0_5.out 0).trans rfl
    have kx0_1 : w5.cell? ⟨w4.heap.size, 1, none⟩ = some (.int .i64 a1) := (blk_cell BXx0_5.out 1).trans rfl
    have kx0_2 : w5.cell? ⟨w4.heap.size, 2, none⟩ = some (.slice B2 l2.length e2) := (blk_cell BXx0_5.out 2).trans rfl
    have kx0_3 : w5.cell? ⟨w4.heap.size, 3, none⟩ = some (.slice B3 l3.length e3) := (blk_cell BXx0_5.out 3).trans rfl
    go_wp2_with fail
    have INT := fun base1 base2 u2 u3 W s1 s2 => intactfig_ok a0 a1 base1 base2 (.slice B2 l2.length e2) (.slice B3 l3.length e3) u2 u3 l2 l3 W s1 s2 hl2 hl3
    go_region_held3 (fun W => W.cell? ⟨w.heap.size, 0, none⟩ = some (.int .i64 a0) ∧ W.cell? ⟨w.heap.size, 1, none⟩ = some (.int .i64 a1) ∧ W.cell? ⟨w.heap.size, 2, none⟩ = some (.slice A2 l2.length c2) ∧ W.cell? ⟨w.heap.size, 3, none⟩ = some (.slice A3 l3.length c3) ∧ W.cell? ⟨w4.heap.size, 0, none⟩ = some (.int .i64 a0) ∧ W.cell? ⟨w4.heap.size, 1, none⟩ = some (.int .i64 a1) ∧ W.cell? ⟨w4.heap.size, 2, none⟩ = some (.slice B2 l2.length e2) ∧ W.cell? ⟨w4.heap.size, 3, none⟩ = some (.slice B3 l3.length e3))
      (first
        | (go_split_ands; exact ⟨pw_cell_below hb2 (pw_cell_below hb k0_0), pw_cell_below hb2 (pw_cell_below hb k0_1), pw_cell_below hb2 (pw_cell_below hb k0_2), pw_cell_below hb2 (pw_cell_below hb k0_3), pw_cell_below hb2 (pw_cell_below hb kx0_0), pw_cell_below hb2 (pw_cell_below hb kx0_1), pw_cell_below hb2 (pw_cell_below hb kx0_2), pw_cell_below hb2 (pw_cell_below hb kx0_3)⟩)
        | (go_split_ands; exact ⟨pw_cell_below hb k0_0, pw_cell_below hb k0_1, pw_cell_below hb k0_2, pw_cell_below hb k0_3, pw_cell_below hb kx0_0, pw_cell_below hb kx0_1, pw_cell_below hb kx0_2, pw_cell_below hb kx0_3⟩)
        | go_keep)
      (first
        | (go_at_call 16; refine (TO0 _ (Kd.C_below HR2.out (below_drew1 HB_5.out)) (Kd.C_below HR3.out (below_drew1 HB_5.out))).mono ?_; rintro e w6 ⟨u2, u3, rfl, sf, hb⟩)
        | (go_at_call 18; refine (INT _ _ _ _ _ (SF0_5.out.later (below_step (below_drew1 (Below.refl _ _)) hb)) sf).mono ?_; rintro e w7 ⟨rfl, hb2⟩))
    have BX0_7 := Aside0.mk (blk_later (blk_later (w := w5.drew) BX0_5.out hb) hb2)
    have BXx0_7 := Aside0.mk (blk_later (blk_later (w := w5.drew) BXx0_5.out hb) hb2)
    have HB_7 := Aside0.mk (below_step (below_step (below_drew1 HB_5.out) hb) hb2)
    clear hb hb2 sf
    clear k0_0 k0_1 k0_2 k0_3 kx0_0 kx0_1 kx0_2 kx0_3 INT
    have k0_0 : w7.cell? ⟨w.heap.size, 0, none⟩ = some (.int .i64 a0) := (blk_cell BX0_7.out 0).trans rfl
    have k0_1 : w7.cell? ⟨w.heap.size, 1, none⟩ = some (.int .i64 a1) := (blk_cell BX0_7.out 1).trans rfl
    have k0_2 : w7.cell? ⟨w.heap.size, 2, none⟩ = some (.slice A2 l2.length c2) := (blk_cell BX0_7.out 2).trans rfl
    have k0_3 : w7.cell? ⟨w.heap.size, 3, none⟩ = some (.slice A3 l3.length c3) := (blk_cell BX0_7.out 3).trans rfl
    go_wp2_with fail
    refine (TB0 _ (Kd.C_below HR2.out (HB_7.out)) (Kd.C_below HR3.out (HB_7.out))).mono ?_
    rintro e w8 ⟨v2, v3, rfl, o2, o3, hb⟩
    obtain ⟨D2, g2, rfl, q2, r2⟩ := Kd.R_reads o2
    obtain ⟨D3, g3, rfl, q3, r3⟩ := Kd.R_reads o3
    have BX0_8 := Aside0.mk (blk_later (BX0_7.out) hb)
    have HB_8 := Aside0.mk (below_step (HB_7.out) hb)
    clear hb o2 o3
    clear k0_0 k0_1 k0_2 k0_3
    have k0_0 : w8.cell? ⟨w.heap.size, 0, none⟩ = some (.int .i64 a0) := (blk_cell BX0_8.out 0).trans rfl
    have k0_1 : w8.cell? ⟨w.heap.size, 1, none⟩ = some (.int .i64 a1) := (blk_cell BX0_8.out 1).trans rfl
    have k0_2 : w8.cell? ⟨w.heap.size, 2, none⟩ = some (.slice A2 l2.length c2) := (blk_cell BX0_8.out 2).trans rfl
    have k0_3 : w8.cell? ⟨w.heap.size, 3, none⟩ = some (.slice A3 l3.length c3) := (blk_cell BX0_8.out 3).trans rfl
    go_wp2_with fail
    refine (IM _ _ _ _ _ (tz_below HT.out (HB_8.out)) r2 q2 r3 q3).mono ?_
    rintro e w9 ⟨rfl, hb⟩
    have BX0_9 := Aside0.mk (blk_later (BX0_8.out) hb)
    have HB_9 := Aside0.mk (below_step (HB_8.out) hb)
    clear hb r2 q2 r3 q3
    clear k0_0 k0_1 k0_2 k0_3
    go_wp2_with fail
    go_ret
    exact ⟨rfl, HB_9.out⟩

/-! The number of bits that are set, and the program's way to count them. -/
/-- how many of the first n bits of x are set -/
def pcn : Nat → Nat → Nat
  | 0, _ => 0
  | n + 1, x => x % 2 + pcn n (x / 2)
/-- the same mask in each of n bytes -/
def rep (m : Nat) : Nat → Nat
  | 0 => 0
  | n + 1 => m + 256 * rep m n
theorem and_split (a b m M : Nat) (ha : a < 256) (hm : m < 256) : (a + 256 * b) &&& (m + 256 * M) = (a &&& m) + 256 * (b &&& M) := by
  apply Nat.eq_of_testBit_eq
  intro i
  have e : ∀ x y : Nat, x < 256 → (x + 256 * y).testBit i = if i < 8 then x.testBit i else y.testBit (i - 8) := by
    intro x y hx
    rw [Nat.add_comm, show 256 * y = 2 ^ 8 * y by rfl, Nat.testBit_two_pow_mul_add y (by simpa using hx)]
  have hl : (a &&& m) < 256 := Nat.and_lt_two_pow (n := 8) a hm
  rw [Nat.testBit_and, e a b ha, e m M hm, e _ _ hl]
  split <;> rw [Nat.testBit_and]
def st1 (x : Nat) : Nat := (x / 2 &&& 85) + (x &&& 85)
def st2 (x : Nat) : Nat := (x / 4 &&& 51) + (x &&& 51)
def st3 (x : Nat) : Nat := (x / 16 + x) &&& 15
def s1 (n x : Nat) : Nat := (x / 2 &&& rep 85 n) + (x &&& rep 85 n)
def s2 (n x : Nat) : Nat := (x / 4 &&& rep 51 n) + (x &&& rep 51 n)
def s3 (n x : Nat) : Nat := (x / 16 + x) &&& rep 15 n
theorem byte1 : ∀ a : Fin 256, ∀ c : Fin 2, (((a.val / 2 + 128 * c.val) &&& 85) = (a.val / 2 &&& 85)) ∧ st1 a.val < 256 := by decide +kernel
theorem byte2 : ∀ a : Fin 256, ∀ c : Fin 4, (((a.val / 4 + 64 * c.val) &&& 51) = (a.val / 4 &&& 51)) ∧ st2 a.val < 256 := by decide +kernel
theorem byte3 : ∀ a : Fin 256, ∀ c : Fin 5, a.val % 16 ≤ 4 → a.val / 16 ≤ 4 → ((a.val / 16 + a.val + 16 * c.val) &&& 15) = st3 a.val ∧ a.val / 16 + a.val + 16 * c.val < 256 := by decide +kernel
theorem byteAll : ∀ a : Fin 256, st3 (st2 (st1 a.val)) = pcn 8 a.val ∧ pcn 8 a.val ≤ 8 ∧ st2 (st1 a.val) % 16 ≤ 4 ∧ st2 (st1 a.val) / 16 ≤ 4 := by decide +kernel
theorem s1_step (n a b : Nat) (ha : a < 256) : s1 (n + 1) (a + 256 * b) = st1 a + 256 * s1 n b := by
  unfold s1
  have e : (a + 256 * b) / 2 = (a / 2 + 128 * (b % 2)) + 256 * (b / 2) := by omega
  have h := byte1 ⟨a, ha⟩ ⟨b % 2, by omega⟩
  rw [e, rep, and_split _ _ _ _ (by omega) (by omega), and_split _ _ _ _ ha (by omega), h.1]
  unfold st1
  simp only
  omega
theorem s2_step (n a b : Nat) (ha : a < 256) : s2 (n + 1) (a + 256 * b) = st2 a + 256 * s2 n b := by
  unfold s2
  have e : (a + 256 * b) / 4 = (a / 4 + 64 * (b % 4)) + 256 * (b / 4) := by omega
  have h := byte2 ⟨a, ha⟩ ⟨b % 4, by omega⟩
  rw [e, rep, and_split _ _ _ _ (by omega) (by omega), and_split _ _ _ _ ha (by omega), h.1]
  unfold st2
  simp only
  omega
theorem s3_step (n a b : Nat) (ha : a < 256) (h1 : a % 16 ≤ 4) (h2 : a / 16 ≤ 4) (h3 : b % 16 ≤ 4) : s3 (n + 1) (a + 256 * b) = st3 a + 256 * s3 n b := by
  unfold s3
  have e : (a + 256 * b) / 16 + (a + 256 * b) = (a / 16 + a + 16 * (b % 16)) + 256 * (b / 16 + b) := by omega
  have h := byte3 ⟨a, ha⟩ ⟨b % 16, by omega⟩ h1 h2
  rw [e, rep, and_split _ _ _ _ h.2 (by omega), h.1]
/-- the bytes of the three first stages: each tells its own count -/
def cnt : Nat → Nat → Nat
  | 0, _ => 0
  | n + 1, x => pcn 8 (x % 256) + 256 * cnt n (x / 256)
theorem stages (n : Nat) : ∀ x : Nat, x < 256 ^ n → s3 n (s2 n (s1 n x)) = cnt n x ∧ s2 n (s1 n x) % 16 ≤ 4 := by
  induction n with
  | zero =>
    intro x hx
    obtain rfl : x = 0 := by simpa using hx
    decide
  | succ n ih =>
    intro x hx
    have hb : x / 256 < 256 ^ n := by rw [Nat.pow_succ] at hx; omega
    obtain ⟨i1, i2⟩ := ih (x / 256) hb
    have e : x = x % 256 + 256 * (x / 256) := by omega
    have hA := byteAll ⟨x % 256, by omega⟩
    have b1 := (byte1 ⟨x % 256, by omega⟩ 0).2
    have b2 := (byte2 ⟨st1 (x % 256), b1⟩ 0).2
    rw [e, s1_step _ _ _ (by omega), s2_step _ _ _ b1]
    refine ⟨?_, ?_⟩
    · rw [s3_step _ _ _ b2 hA.2.2.1 hA.2.2.2 i2, i1, hA.1]
      simp only [cnt]
      rw [show (x % 256 + 256 * (x / 256)) % 256 = x % 256 by omega, show (x % 256 + 256 * (x / 256)) / 256 = x / 256 by omega]
    · have := hA.2.2.1
      simp only at this
      omega
theorem pcn_byte (n : Nat) : ∀ x : Nat, pcn (8 + n) x = pcn 8 (x % 256) + pcn n (x / 256) := by
  intro x
  have key : ∀ m y : Nat, pcn (m + n) y = pcn m (y % 2 ^ m) + pcn n (y / 2 ^ m) := by
    intro m
    induction m with
    | zero => intro y; simp [pcn]
    | succ m ih =>
      intro y
      rw [show m + 1 + n = (m + n) + 1 by omega]
      simp only [pcn]
      rw [ih (y / 2), Nat.div_div_eq_div_mul, show 2 * 2 ^ m = 2 ^ (m + 1) by rw [Nat.pow_succ]; omega]
      have h1 : y % 2 ^ (m + 1) % 2 = y % 2 := Nat.mod_mod_of_dvd _ ⟨2 ^ m, by rw [Nat.pow_succ]; omega⟩
      have h2 : y % 2 ^ (m + 1) / 2 = y / 2 % 2 ^ m := by
        rw [Nat.pow_succ, Nat.mul_comm, Nat.mod_mul_right_div_self]
      rw [h1, h2]
      omega
  exact key 8 x
theorem div1 (b t : Nat) (h : b < 256) : (b + 256 * t) / 256 = t := by omega
theorem div2 (b c t : Nat) (h : b < 256) (h2 : c < 256) : (b + 256 * (c + 256 * t)) / 65536 = t := by
  rw [show 65536 = 256 * 256 by rfl, ← Nat.div_div_eq_div_mul, div1 _ _ h, div1 _ _ h2]
theorem div4 (b c d e t : Nat) (h : b < 256) (h2 : c < 256) (h3 : d < 256) (h4 : e < 256) : (b + 256 * (c + 256 * (d + 256 * (e + 256 * t)))) / 4294967296 = t := by
  rw [show 4294967296 = 65536 * 65536 by rfl, ← Nat.div_div_eq_div_mul, div2 _ _ _ h h2, div2 _ _ _ h3 h4]
theorem lt_step (b t N : Nat) (h : b < 256) (ht : t < N) : b + 256 * t < 256 * N := by omega
theorem lt8 (b0 b1 b2 b3 b4 b5 b6 b7 : Nat) (h0 : b0 < 256) (h1 : b1 < 256) (h2 : b2 < 256) (h3 : b3 < 256) (h4 : b4 < 256) (h5 : b5 < 256) (h6 : b6 < 256) (h7 : b7 < 256) : b0 + 256 * (b1 + 256 * (b2 + 256 * (b3 + 256 * (b4 + 256 * (b5 + 256 * (b6 + 256 * b7)))))) < 18446744073709551616 :=
  lt_step _ _ _ h0 (lt_step _ _ _ h1 (lt_step _ _ _ h2 (lt_step _ _ _ h3 (lt_step _ _ _ h4 (lt_step _ _ _ h5 (lt_step _ _ _ h6 h7))))))
theorem add1 (b0 b1 b2 b3 b4 b5 b6 b7 : Nat) : (b0 + 256 * (b1 + 256 * (b2 + 256 * (b3 + 256 * (b4 + 256 * (b5 + 256 * (b6 + 256 * b7))))))) + (b1 + 256 * (b2 + 256 * (b3 + 256 * (b4 + 256 * (b5 + 256 * (b6 + 256 * b7)))))) = (b0 + b1) + 256 * ((b1 + b2) + 256 * ((b2 + b3) + 256 * ((b3 + b4) + 256 * ((b4 + b5) + 256 * ((b5 + b6) + 256 * ((b6 + b7) + 256 * b7)))))) := by omega
theorem add2 (b0 b1 b2 b3 b4 b5 b6 b7 : Nat) : (b0 + 256 * (b1 + 256 * (b2 + 256 * (b3 + 256 * (b4 + 256 * (b5 + 256 * (b6 + 256 * b7))))))) + (b2 + 256 * (b3 + 256 * (b4 + 256 * (b5 + 256 * (b6 + 256 * b7))))) = (b0 + b2) + 256 * ((b1 + b3) + 256 * ((b2 + b4) + 256 * ((b3 + b5) + 256 * ((b4 + b6) + 256 * ((b5 + b7) + 256 * (b6 + 256 * b7)))))) := by omega
theorem add4 (b0 b1 b2 b3 b4 b5 b6 b7 : Nat) : (b0 + 256 * (b1 + 256 * (b2 + 256 * (b3 + 256 * (b4 + 256 * (b5 + 256 * (b6 + 256 * b7))))))) + (b4 + 256 * (b5 + 256 * (b6 + 256 * b7))) = (b0 + b4) + 256 * ((b1 + b5) + 256 * ((b2 + b6) + 256 * ((b3 + b7) + 256 * (b4 + 256 * (b5 + 256 * (b6 + 256 * b7)))))) := by omega
theorem mod128 (b t : Nat) (h : b < 128) : (b + 256 * t) % 128 = b := by omega
/-- the last three stages add the bytes -/
theorem add_bytes (b0 b1 b2 b3 b4 b5 b6 b7 : Nat) (h0 : b0 ≤ 8) (h1 : b1 ≤ 8) (h2 : b2 ≤ 8) (h3 : b3 ≤ 8) (h4 : b4 ≤ 8) (h5 : b5 ≤ 8) (h6 : b6 ≤ 8) (h7 : b7 ≤ 8) (x y z : Nat)
    (hx : x = b0 + 256 * (b1 + 256 * (b2 + 256 * (b3 + 256 * (b4 + 256 * (b5 + 256 * (b6 + 256 * b7)))))))
    (hy : y = x + x / 256) (hz : z = y + y / 65536) : z + z / 4294967296 < 18446744073709551616 ∧ y < 18446744073709551616 ∧ z < 18446744073709551616 ∧ (z + z / 4294967296) % 128 = b0 + b1 + b2 + b3 + b4 + b5 + b6 + b7 := by
  rw [hx, div1 _ _ (by omega), add1] at hy
  rw [hy, div2 _ _ _ (by omega) (by omega), add2] at hz
  rw [hz, div4 _ _ _ _ _ (by omega) (by omega) (by omega) (by omega), add4, hy, mod128 _ _ (by omega)]
  refine ⟨lt8 _ _ _ _ _ _ _ _ ?_ ?_ ?_ ?_ ?_ ?_ ?_ ?_, lt8 _ _ _ _ _ _ _ _ ?_ ?_ ?_ ?_ ?_ ?_ ?_ ?_, lt8 _ _ _ _ _ _ _ _ ?_ ?_ ?_ ?_ ?_ ?_ ?_ ?_, ?_⟩ <;> omega

/-! Figures: both programs ask the same. -/
def Rise (l : List Int) : Prop := ∀ j : Nat, 1 ≤ j → j < l.length → rd l ((j : Int) - 1) < rd l j
def Within (l : List Int) (lo hi : Int) : Prop := ∀ x ∈ l, lo ≤ x ∧ x ≤ hi
theorem w64 (x : Int) (h1 : -9223372036854775808 ≤ x) (h2 : x ≤ 9223372036854775807) : wrap64 x = x := by unfold wrap64; omega

theorem rd_mem {l : List Int} {j : Nat} (h : j < l.length) : rd l (j : Int) ∈ l := by
  have e : rd l (j : Int) = l[j] := by simp [rd, h]
  rw [e]; exact List.getElem_mem h
theorem mem_rd {l : List Int} {x : Int} (h : x ∈ l) : ∃ j : Nat, j < l.length ∧ rd l (j : Int) = x := by
  obtain ⟨j, hj, rfl⟩ := List.getElem_of_mem h
  exact ⟨j, hj, by simp [rd, hj]⟩

theorem impl_within_f (a lo hi : Int) : impl_within.f a lo hi = some (decide (lo ≤ a) && decide (a ≤ hi)) := by
  unfold impl_within.f
  by_cases h : lo ≤ a <;> simp [h]
theorem spec_l1In_f (a lo hi : Int) : spec_l1In.f a lo hi = some (decide (lo ≤ a) && decide (a ≤ hi)) := by
  unfold spec_l1In.f
  by_cases h : lo ≤ a
  · rw [if_pos h]; simp [h]
  · rw [if_neg (by omega)]; simp [h]


theorem impl_rising_l (l : List Int) (hn : l.length ≤ 4611686018427387904) : ∀ (d i k : Nat), 1 ≤ i → i + d = max l.length i → d < k → ∃ b, impl_isRising.l0 k l (i : Int) = some b ∧ (b = true ↔ ∀ j : Nat, i ≤ j → j < l.length → rd l ((j : Int) - 1) < rd l j) := by
  intro d
  induction d with
  | zero =>
    intro i k h1 hi hk
    obtain ⟨k, rfl⟩ : ∃ m, k = m + 1 := ⟨k - 1, by omega⟩
    refine ⟨true, ?_, ?_⟩
    · simp only [impl_isRising.l0]; rw [if_neg (by omega)]
    · simp; intro j hj hl; omega
  | succ d ih =>
    intro i k h1 hi hk
    obtain ⟨k, rfl⟩ : ∃ m, k = m + 1 := ⟨k - 1, by omega⟩
    have hlt : (i : Int) < (l.length : Int) := by omega
    simp only [impl_isRising.l0]
    rw [if_pos hlt, if_pos (by omega), w64 _ (by omega) (by omega), if_pos (by omega), if_pos (by omega)]
    by_cases hc : rd l (i : Int) ≤ rd l ((i : Int) - 1)
    · rw [if_pos hc]
      refine ⟨false, rfl, ?_⟩
      simp
      exact ⟨i, Nat.le_refl _, by omega, by omega⟩
    · rw [if_neg hc, w64 _ (by omega) (by omega)]
      obtain ⟨b, hb, hiff⟩ := ih (i + 1) k (by omega) (by omega) (by omega)
      refine ⟨b, by exact_mod_cast hb, hiff.trans ⟨fun h j hj hl => ?_, fun h j hj hl => h j (by omega) hl⟩⟩
      by_cases e : j = i
      · subst e; omega
      · exact h j (by omega) hl
theorem impl_rising (l : List Int) (hn : l.length ≤ 4611686018427387904) (k : Nat) (hk : l.length + 1 ≤ k) : ∃ b, impl_isRising.f k l = some b ∧ (b = true ↔ Rise l) := by
  obtain ⟨b, hb, hiff⟩ := impl_rising_l l hn (max l.length 1 - 1) 1 k (by omega) (by omega) (by omega)
  exact ⟨b, hb, hiff⟩
theorem impl_areWithin_f (l : List Int) (lo hi : Int) : ∃ b, impl_areWithin.f l lo hi = some b ∧ (b = true ↔ Within l lo hi) := by
  refine ⟨_, rfl, ?_⟩
  unfold Within awP
  simp only [Bool.not_eq_true', List.any_eq_false]
  constructor
  · intro h x hx
    have := h x hx
    simpa using this
  · intro h x hx
    have := h x hx
    simp [this.1, this.2]

theorem spec_l1All_l (l : List Int) (lo hi : Int) (hn : l.length ≤ 4611686018427387904) : ∀ (d i k : Nat), i + d = l.length → d < k → ∃ b, spec_l1All.l0 k lo hi l (l.length : Int) (i : Int) = some b ∧ (b = true ↔ ∀ j : Nat, i ≤ j → j < l.length → lo ≤ rd l j ∧ rd l j ≤ hi) := by
  intro d
  induction d with
  | zero =>
    intro i k hi hk
    obtain ⟨k, rfl⟩ : ∃ m, k = m + 1 := ⟨k - 1, by omega⟩
    refine ⟨true, ?_, ?_⟩
    · simp only [spec_l1All.l0]; rw [if_neg (by omega)]
    · simp; intro j hj hl; omega
  | succ d ih =>
    intro i k hi2 hk
    obtain ⟨k, rfl⟩ : ∃ m, k = m + 1 := ⟨k - 1, by omega⟩
    simp only [spec_l1All.l0]
    rw [if_pos (by omega), if_pos (by omega), if_pos (by omega), spec_l1In_f]
    simp only [Option.bind_some]
    by_cases hc : lo ≤ rd l (i : Int) ∧ rd l (i : Int) ≤ hi
    · rw [if_pos (by simp [hc.1, hc.2]), w64 _ (by omega) (by omega)]
      obtain ⟨b, hb, hiff⟩ := ih (i + 1) k (by omega) (by omega)
      refine ⟨b, by exact_mod_cast hb, hiff.trans ⟨fun h j hj hl => ?_, fun h j hj hl => h j (by omega) hl⟩⟩
      by_cases e : j = i
      · subst e; exact hc
      · exact h j (by omega) hl
    · rw [if_neg (by simpa using hc)]
      refine ⟨false, rfl, ?_⟩
      simp
      exact ⟨i, Nat.le_refl _, by omega, by omega⟩
theorem spec_l1All_f (l : List Int) (lo hi : Int) (hn : l.length ≤ 4611686018427387904) (k : Nat) (hk : l.length + 1 ≤ k) : ∃ b, spec_l1All.f k l lo hi = some b ∧ (b = true ↔ Within l lo hi) := by
  obtain ⟨b, hb, hiff⟩ := spec_l1All_l l lo hi hn l.length 0 k (by omega) (by omega)
  refine ⟨b, hb, hiff.trans ⟨fun h x hx => ?_, fun h j _ hl => h _ (rd_mem hl)⟩⟩
  obtain ⟨j, hj, rfl⟩ := mem_rd hx
  exact h j (by omega) hj
theorem spec_fiRises_l (l : List Int) (hn : l.length ≤ 4611686018427387904) : ∀ (d i k : Nat), 1 ≤ i → i + d = max l.length i → d < k → ∃ b, spec_fiRises.l0 k l (i : Int) = some b ∧ (b = true ↔ ∀ j : Nat, i ≤ j → j < l.length → rd l ((j : Int) - 1) < rd l j) := by
  intro d
  induction d with
  | zero =>
    intro i k h1 hi hk
    obtain ⟨k, rfl⟩ : ∃ m, k = m + 1 := ⟨k - 1, by omega⟩
    refine ⟨true, ?_, ?_⟩
    · simp only [spec_fiRises.l0]; rw [if_neg (by omega)]
    · simp; intro j hj hl; omega
  | succ d ih =>
    intro i k h1 hi hk
    obtain ⟨k, rfl⟩ : ∃ m, k = m + 1 := ⟨k - 1, by omega⟩
    have hlt : (i : Int) < (l.length : Int) := by omega
    simp only [spec_fiRises.l0]
    rw [if_pos hlt, w64 ((i : Int) - 1) (by omega) (by omega), if_pos (by omega), if_pos (by omega), if_pos (by omega)]
    by_cases hc : rd l ((i : Int) - 1) ≥ rd l (i : Int)
    · rw [if_pos hc]
      refine ⟨false, rfl, ?_⟩
      simp
      exact ⟨i, Nat.le_refl _, by omega, by omega⟩
    · rw [if_neg hc, w64 _ (by omega) (by omega)]
      obtain ⟨b, hb, hiff⟩ := ih (i + 1) k (by omega) (by omega) (by omega)
      refine ⟨b, by exact_mod_cast hb, hiff.trans ⟨fun h j hj hl => ?_, fun h j hj hl => h j (by omega) hl⟩⟩
      by_cases e : j = i
      · subst e; omega
      · exact h j (by omega) hl
theorem rise_index {l : List Int} (h : Rise l) {lo : Int} (h0 : ∀ x ∈ l, lo ≤ x) : ∀ j : Nat, j < l.length → lo + j ≤ rd l (j : Int) := by
  intro j
  induction j with
  | zero => intro hl; have := h0 _ (rd_mem hl); simpa using this
  | succ j ih =>
    intro hl
    have h1 := ih (by omega)
    have h2 := h (j + 1) (by omega) hl
    rw [show ((j + 1 : Nat) : Int) - 1 = (j : Int) by omega] at h2
    omega
theorem rise_length {l : List Int} {most : Int} (h : Rise l) (hw : Within l 0 most) (hm : 0 ≤ most) : (l.length : Int) ≤ most + 1 := by
  by_cases hz : l.length = 0
  · omega
  · have h1 := rise_index h (lo := 0) (fun x hx => (hw x hx).1) (l.length - 1) (by omega)
    have h2 := (hw _ (rd_mem (j := l.length - 1) (by omega))).2
    omega
theorem spec_fiRises_f (l : List Int) (most : Int) (h0 : 0 ≤ most) (hm : most ≤ 1000) (hn : l.length ≤ 4611686018427387904) (k : Nat) (hk : l.length + 3 ≤ k) : ∃ b, spec_fiRises.f k l most = some b ∧ (b = true ↔ Rise l ∧ Within l 0 most) := by
  unfold spec_fiRises.f
  rw [w64 _ (by omega) (by omega)]
  obtain ⟨k, rfl⟩ : ∃ m, k = m + 1 := ⟨k - 1, by omega⟩
  by_cases hc : (l.length : Int) > most + 1
  · rw [if_pos hc]
    refine ⟨false, by simp [spec_fiRises.j0], ?_⟩
    simp
    intro h1 h2
    have := rise_length h1 h2 h0
    omega
  · rw [if_neg hc]
    obtain ⟨b, hb, hiff⟩ := spec_l1All_f l 0 most hn (k + 1) (by omega)
    rw [hb]
    simp only [Option.bind_some, spec_fiRises.j0]
    cases b with
    | false =>
      refine ⟨false, by simp, ?_⟩
      have : ¬ Within l 0 most := fun z => by simpa using hiff.2 z
      simp
      exact fun _ => this
    | true =>
      rw [if_neg (by simp)]
      obtain ⟨b, hb, hiff2⟩ := spec_fiRises_l l hn (max l.length 1 - 1) 1 k (by omega) (by omega) (by omega)
      exact ⟨b, hb, hiff2.trans ⟨fun h => ⟨h, hiff.1 rfl⟩, fun h => h.1⟩⟩

/-- what a figure is -/
structure FigOK (w h : Int) (l2 l3 : List Int) : Prop where
  w1 : 1 ≤ w
  w4 : w ≤ 4
  h1 : 1 ≤ h
  h4 : h ≤ 4
  r2 : Rise l2
  r3 : Rise l3
  in2 : Within l2 0 (w * (h + 1) - 1)
  in3 : Within l3 0 (h * (w + 1) - 1)
theorem mul_bounds {w h : Int} (h1 : 1 ≤ w) (h2 : w ≤ 4) (h3 : 1 ≤ h) (h4 : h ≤ 4) : 2 ≤ w * (h + 1) ∧ w * (h + 1) ≤ 20 ∧ 2 ≤ h * (w + 1) ∧ h * (w + 1) ≤ 20 ∧ (w + 1) * h = h * (w + 1) ∧ 1 ≤ w * h ∧ w * h ≤ 16 := by
  have hw : w = 1 ∨ w = 2 ∨ w = 3 ∨ w = 4 := by omega
  have hh : h = 1 ∨ h = 2 ∨ h = 3 ∨ h = 4 := by omega
  rcases hw with rfl | rfl | rfl | rfl <;> rcases hh with rfl | rfl | rfl | rfl <;> decide
theorem grid_mul {w h : Int} (h1 : 1 ≤ w) (h2 : w ≤ 4) (h3 : 1 ≤ h) (h4 : h ≤ 4) : wrap64 (w * wrap64 (h + 1)) = w * (h + 1) ∧ wrap64 (h * wrap64 (w + 1)) = h * (w + 1) ∧ wrap64 (wrap64 (w + 1) * h) = h * (w + 1) ∧ wrap64 (w * h) = w * h := by
  obtain ⟨a, b, c, d, e, f, g⟩ := mul_bounds h1 h2 h3 h4
  rw [w64 (h + 1) (by omega) (by omega), w64 (w + 1) (by omega) (by omega), e]
  exact ⟨w64 _ (by omega) (by omega), w64 _ (by omega) (by omega), w64 _ (by omega) (by omega), w64 _ (by omega) (by omega)⟩
theorem impl_isGrid_f (w h : Int) : impl_isGrid.f w h = some (decide (1 ≤ w ∧ w ≤ 4 ∧ 1 ≤ h ∧ h ≤ 4)) := by
  unfold impl_isGrid.f
  rw [impl_within_f]
  simp only [Option.bind_some]
  by_cases hc : 1 ≤ w ∧ w ≤ 4
  · rw [if_pos (by simp [hc.1, hc.2]), impl_within_f]
    simp [hc.1, hc.2]
  · rw [if_neg (by simpa using hc)]
    simp
    intro a b
    exact absurd ⟨a, b⟩ hc
theorem spec_fiGrid_f (w h : Int) : spec_fiGrid.f w h = some (decide (1 ≤ w ∧ w ≤ 4 ∧ 1 ≤ h ∧ h ≤ 4)) := by
  unfold spec_fiGrid.f
  rw [spec_l1In_f]
  simp only [Option.bind_some]
  by_cases hc : 1 ≤ w ∧ w ≤ 4
  · rw [if_pos (by simp [hc.1, hc.2]), spec_l1In_f]
    simp [hc.1, hc.2]
  · rw [if_neg (by simpa using hc)]
    simp
    intro a b
    exact absurd ⟨a, b⟩ hc
theorem impl_IsFigure_f (w h : Int) (l2 l3 : List Int) (h2 : l2.length ≤ 4611686018427387904) (h3 : l3.length ≤ 4611686018427387904) (k : Nat) (hk : l2.length + l3.length + 5 ≤ k) : ∃ b, impl_IsFigure.f k w h l2 l3 = some b ∧ (b = true ↔ FigOK w h l2 l3) := by
  unfold impl_IsFigure.f impl_Figure_grid.f impl_grid_levels.f impl_grid_uprights.f
  rw [impl_isGrid_f]
  simp only [Option.bind_some]
  by_cases hc : 1 ≤ w ∧ w ≤ 4 ∧ 1 ≤ h ∧ h ≤ 4
  · rw [if_pos (by simpa using hc)]
    obtain ⟨e1, e2, _⟩ := grid_mul hc.1 hc.2.1 hc.2.2.1 hc.2.2.2
    obtain ⟨m1, m2, m3, m4, _⟩ := mul_bounds hc.1 hc.2.1 hc.2.2.1 hc.2.2.2
    rw [e1, e2, w64 (w * (h + 1) - 1) (by omega) (by omega), w64 (h * (w + 1) - 1) (by omega) (by omega)]
    obtain ⟨b2, q2, i2⟩ := impl_rising l2 h2 k (by omega)
    obtain ⟨b3, q3, i3⟩ := impl_rising l3 h3 k (by omega)
    obtain ⟨b4, q4, i4⟩ := impl_areWithin_f l2 0 (w * (h + 1) - 1)
    obtain ⟨b5, q5, i5⟩ := impl_areWithin_f l3 0 (h * (w + 1) - 1)
    rw [q2, q3, q4, q5]
    simp only [Option.bind_some]
    refine ⟨b2 && (b3 && (b4 && b5)), by cases b2 <;> cases b3 <;> cases b4 <;> rfl, ?_⟩
    simp only [Bool.and_eq_true, i2, i3, i4, i5]
    exact ⟨fun ⟨a, b, c, d⟩ => ⟨hc.1, hc.2.1, hc.2.2.1, hc.2.2.2, a, b, c, d⟩, fun x => ⟨x.r2, x.r3, x.in2, x.in3⟩⟩
  · rw [if_neg (by simpa using hc)]
    refine ⟨false, rfl, ?_⟩
    simp
    exact fun x => hc ⟨x.w1, x.w4, x.h1, x.h4⟩
theorem spec_fiGood_f (w h : Int) (l2 l3 : List Int) (h2 : l2.length ≤ 4611686018427387904) (h3 : l3.length ≤ 4611686018427387904) (k : Nat) (hk : l2.length + l3.length + 5 ≤ k) : ∃ b, spec_fiGood.f k w h l2 l3 = some b ∧ (b = true ↔ FigOK w h l2 l3) := by
  unfold spec_fiGood.f
  rw [spec_fiGrid_f]
  simp only [Option.bind_some]
  by_cases hc : 1 ≤ w ∧ w ≤ 4 ∧ 1 ≤ h ∧ h ≤ 4
  · rw [if_pos (by simpa using hc)]
    obtain ⟨e1, e2, e3, _⟩ := grid_mul hc.1 hc.2.1 hc.2.2.1 hc.2.2.2
    obtain ⟨m1, m2, m3, m4, _⟩ := mul_bounds hc.1 hc.2.1 hc.2.2.1 hc.2.2.2
    rw [e1, e3, w64 (w * (h + 1) - 1) (by omega) (by omega), w64 (h * (w + 1) - 1) (by omega) (by omega)]
    obtain ⟨b2, q2, i2⟩ := spec_fiRises_f l2 (w * (h + 1) - 1) (by omega) (by omega) h2 k (by omega)
    obtain ⟨b3, q3, i3⟩ := spec_fiRises_f l3 (h * (w + 1) - 1) (by omega) (by omega) h3 k (by omega)
    rw [q2, q3]
    simp only [Option.bind_some]
    refine ⟨b2 && b3, by cases b2 <;> cases b3 <;> rfl, ?_⟩
    simp only [Bool.and_eq_true, i2, i3]
    exact ⟨fun ⟨⟨a, c⟩, b, d⟩ => ⟨hc.1, hc.2.1, hc.2.2.1, hc.2.2.2, a, b, c, d⟩, fun x => ⟨⟨x.r2, x.in2⟩, x.r3, x.in3⟩⟩
  · rw [if_neg (by simpa using hc)]
    refine ⟨false, rfl, ?_⟩
    simp
    exact fun x => hc ⟨x.w1, x.w4, x.h1, x.h4⟩
/-- both tell the same -/
theorem fig_same (w h : Int) (l2 l3 : List Int) (h2 : l2.length ≤ 4611686018427387904) (h3 : l3.length ≤ 4611686018427387904) (k : Nat) (hk : l2.length + l3.length + 5 ≤ k) : ∃ b, impl_IsFigure.f k w h l2 l3 = some b ∧ spec_fiGood.f k w h l2 l3 = some b ∧ (b = true ↔ FigOK w h l2 l3) := by
  obtain ⟨b, q, i⟩ := impl_IsFigure_f w h l2 l3 h2 h3 k hk
  obtain ⟨c, r, j⟩ := spec_fiGood_f w h l2 l3 h2 h3 k hk
  have : b = c := by rw [Bool.eq_iff_iff, i, j]
  subst this
  exact ⟨b, q, r, i⟩

/-! Sets of edges as bits. -/
theorem rise_lt {l : List Int} (h : Rise l) : ∀ (d i : Nat), i + d + 1 < l.length → rd l (i : Int) < rd l ((i + d + 1 : Nat) : Int) := by
  intro d
  induction d with
  | zero =>
    intro i hi
    have := h (i + 1) (by omega) (by omega)
    rw [show ((i + 1 : Nat) : Int) - 1 = (i : Int) by omega] at this
    exact this
  | succ d ih =>
    intro i hi
    have h1 := ih i (by omega)
    have h2 := h (i + (d + 1) + 1) (by omega) hi
    rw [show ((i + (d + 1) + 1 : Nat) : Int) - 1 = ((i + d + 1 : Nat) : Int) by omega] at h2
    omega
theorem rise_pairwise {l : List Int} (h : Rise l) : l.Pairwise (· < ·) := by
  rw [List.pairwise_iff_getElem]
  intro i j hi hj hij
  have := rise_lt h (j - i - 1) i (by omega)
  rw [show i + (j - i - 1) + 1 = j by omega] at this
  simpa [rd, hi, hj] using this
theorem pairwise_rise {l : List Int} (h : l.Pairwise (· < ·)) : Rise l := by
  intro j h1 hj
  rw [List.pairwise_iff_getElem] at h
  have := h (j - 1) j (by omega) hj (by omega)
  have e1 : rd l ((j : Int) - 1) = l[j - 1] := by
    rw [show (j : Int) - 1 = ((j - 1 : Nat) : Int) by omega]
    simp [rd, show j - 1 < l.length by omega]
  have e2 : rd l (j : Int) = l[j] := by simp [rd, hj]
  rw [e1, e2]; exact this
theorem rise_iff (l : List Int) : Rise l ↔ l.Pairwise (· < ·) := ⟨rise_pairwise, pairwise_rise⟩

theorem pow64 {x : Nat} (h : x < 64) : 2 ^ x < 18446744073709551616 := Nat.lt_of_lt_of_le (Nat.pow_lt_pow_right (by decide) h) (by decide)
theorem shl_one (x : Int) (h0 : 0 ≤ x) (h : x < 64) : shl .u64 1 x = ((2 ^ x.toNat : Nat) : Int) := by
  unfold shl
  have hx : x.toNat < 64 := by omega
  have e : min x.toNat (IntKind.u64.bits) = x.toNat := Nat.min_eq_left (by show x.toNat ≤ 64; omega)
  rw [e, IntKind.wrap_u64, Int.one_mul]
  have := pow64 hx
  have e2 : ((2 : Int) ^ x.toNat) = ((2 ^ x.toNat : Nat) : Int) := by push_cast; rfl
  rw [e2]
  exact Int.emod_eq_of_lt (Int.natCast_nonneg _) (Int.ofNat_lt.mpr this)
theorem or64 {a b : Nat} (ha : a < 18446744073709551616) (hb : b < 18446744073709551616) : a ||| b < 18446744073709551616 := Nat.or_lt_two_pow (n := 64) ha hb
/-- bits laid on, one after the other -/
def acc (base : Int) (l : List Int) (m : Nat) : Nat := l.foldl (fun m x => m ||| 2 ^ (base + x).toNat) m
theorem acc_lt (base : Int) : ∀ (l : List Int) (m : Nat), m < 18446744073709551616 → (∀ x ∈ l, 0 ≤ base + x ∧ base + x < 64) → acc base l m < 18446744073709551616 := by
  intro l
  induction l with
  | nil => intro m hm _; exact hm
  | cons x l ih =>
    intro m hm h
    have hx := h x (by simp)
    exact ih _ (or64 hm (pow64 (by omega))) (fun y hy => h y (by simp [hy]))
theorem acc_testBit (base : Int) : ∀ (l : List Int) (m j : Nat), (∀ x ∈ l, 0 ≤ base + x) → ((acc base l m).testBit j = true ↔ m.testBit j = true ∨ ((j : Int) - base) ∈ l) := by
  intro l
  induction l with
  | nil => intro m j _; simp [acc]
  | cons x l ih =>
    intro m j h
    have hx := h x (by simp)
    show (acc base l (m ||| 2 ^ (base + x).toNat)).testBit j = true ↔ _
    rw [ih _ j (fun y hy => h y (by simp [hy])), Nat.testBit_or, Nat.testBit_two_pow]
    simp only [Bool.or_eq_true, decide_eq_true_eq, List.mem_cons]
    constructor
    · rintro ((h1 | h1) | h1)
      · exact .inl h1
      · exact .inr (.inl (by omega))
      · exact .inr (.inr h1)
    · rintro (h1 | h1 | h1)
      · exact .inl (.inl h1)
      · exact .inl (.inr (by omega))
      · exact .inr h1
theorem pcn_or (n : Nat) : ∀ (m k : Nat), k < n → m.testBit k = false → pcn n (m ||| 2 ^ k) = pcn n m + 1 := by
  induction n with
  | zero => intro m k h; omega
  | succ n ih =>
    intro m k hk hb
    simp only [pcn]
    cases k with
    | zero =>
      have h0 : m % 2 = 0 := by
        have : m.testBit 0 = decide (m % 2 = 1) := by simp [Nat.testBit_zero]
        rw [this] at hb
        simp at hb
        omega
      have e1 : (m ||| 2 ^ 0) % 2 = 1 := by
        have : (m ||| 2 ^ 0).testBit 0 = true := by simp [Nat.testBit_or]
        rw [Nat.testBit_zero] at this
        simpa using this
      have e2 : (m ||| 2 ^ 0) / 2 = m / 2 := by
        apply Nat.eq_of_testBit_eq
        intro i
        rw [Nat.testBit_div_two, Nat.testBit_or, Nat.testBit_two_pow, Nat.testBit_div_two]
        simp
      rw [e1, e2]; omega
    | succ k =>
      have hb2 : (m / 2).testBit k = false := by rw [Nat.testBit_div_two]; exact hb
      have e1 : (m ||| 2 ^ (k + 1)) % 2 = m % 2 := by
        have h1 : (m ||| 2 ^ (k + 1)).testBit 0 = m.testBit 0 := by rw [Nat.testBit_or, Nat.testBit_two_pow]; simp
        rw [Nat.testBit_zero, Nat.testBit_zero, decide_eq_decide] at h1
        omega
      have e2 : (m ||| 2 ^ (k + 1)) / 2 = m / 2 ||| 2 ^ k := by
        apply Nat.eq_of_testBit_eq
        intro i
        rw [Nat.testBit_div_two, Nat.testBit_or, Nat.testBit_two_pow, Nat.testBit_or, Nat.testBit_div_two, Nat.testBit_two_pow]
        congr 1
        simp
      rw [e1, e2, ih _ k (by omega) hb2]; omega
theorem acc_count (base : Int) : ∀ (l : List Int) (m : Nat), l.Pairwise (· < ·) → (∀ x ∈ l, 0 ≤ base + x ∧ base + x < 64) → (∀ x ∈ l, m.testBit (base + x).toNat = false) → pcn 64 (acc base l m) = pcn 64 m + l.length := by
  intro l
  induction l with
  | nil => intro m _ _ _; simp [acc]
  | cons x l ih =>
    intro m hp h hb
    have hx := h x (by simp)
    rw [List.pairwise_cons] at hp
    show pcn 64 (acc base l (m ||| 2 ^ (base + x).toNat)) = _
    rw [ih _ hp.2 (fun y hy => h y (by simp [hy])) ?_, pcn_or 64 m _ (by omega) (hb x (by simp))]
    · simp; omega
    · intro y hy
      have h1 := hp.1 y hy
      rw [Nat.testBit_or, hb y (by simp [hy]), Nat.testBit_two_pow]
      simp; omega

/-- a figure's matches as bits: level ones first -/
def maskN (w h : Int) (l2 l3 : List Int) : Nat := acc (w * (h + 1)) l3 (acc 0 l2 0)
theorem FigOK.nums {w h : Int} {l2 l3 : List Int} (F : FigOK w h l2 l3) : 2 ≤ w * (h + 1) ∧ w * (h + 1) ≤ 20 ∧ 2 ≤ h * (w + 1) ∧ h * (w + 1) ≤ 20 ∧ (w + 1) * h = h * (w + 1) ∧ 1 ≤ w * h ∧ w * h ≤ 16 := mul_bounds F.w1 F.w4 F.h1 F.h4
theorem FigOK.range2 {w h : Int} {l2 l3 : List Int} (F : FigOK w h l2 l3) : ∀ x ∈ l2, 0 ≤ 0 + x ∧ 0 + x < 64 := fun x hx => by
  have := F.in2 x hx
  have := F.nums
  omega
theorem FigOK.range3 {w h : Int} {l2 l3 : List Int} (F : FigOK w h l2 l3) : ∀ x ∈ l3, 0 ≤ w * (h + 1) + x ∧ w * (h + 1) + x < 64 := fun x hx => by
  have := F.in3 x hx
  have := F.nums
  omega
theorem FigOK.mask_lt {w h : Int} {l2 l3 : List Int} (F : FigOK w h l2 l3) : maskN w h l2 l3 < 18446744073709551616 := acc_lt _ _ _ (acc_lt _ _ _ (by decide) F.range2) F.range3
theorem FigOK.mask_count {w h : Int} {l2 l3 : List Int} (F : FigOK w h l2 l3) : pcn 64 (maskN w h l2 l3) = l2.length + l3.length := by
  unfold maskN
  rw [acc_count _ _ _ (rise_pairwise F.r3) F.range3 ?_, acc_count _ _ _ (rise_pairwise F.r2) F.range2 (fun x hx => by simp)]
  · have : pcn 64 0 = 0 := by decide
    omega
  · intro x hx
    have h1 := F.range3 x hx
    cases hb : (acc 0 l2 0).testBit (w * (h + 1) + x).toNat with
    | false => rfl
    | true =>
      rw [acc_testBit _ _ _ _ (fun y hy => (F.range2 y hy).1)] at hb
      rcases hb with hb | hb
      · simp at hb
      · have := F.in2 _ hb
        have := (F.in3 x hx).1
        omega
/-- the program's set of a figure -/
theorem set_l1 (w h : Int) (hw1 : 1 ≤ w) (hw4 : w ≤ 4) (hh1 : 1 ≤ h) (hh4 : h ≤ 4) (l : List Int) (hl : ∀ x ∈ l, 0 ≤ w * (h + 1) + x ∧ w * (h + 1) + x < 64) (hn : l.length ≤ 4611686018427387904) (L2 L3 : List Int) : ∀ (d i k m : Nat), i + d = l.length → d < k → m < 18446744073709551616 →
    impl_Figure_set.l1 k (m : Int) l (l.length : Int) (i : Int) w h L2 L3 = some ((acc (w * (h + 1)) (l.drop i) m : Nat) : Int) := by
  intro d
  induction d with
  | zero =>
    intro i k m hi hk hm
    obtain ⟨k, rfl⟩ : ∃ q, k = q + 1 := ⟨k - 1, by omega⟩
    simp only [impl_Figure_set.l1]
    rw [if_neg (by omega), List.drop_of_length_le (by omega)]
    rfl
  | succ d ih =>
    intro i k m hi hk hm
    obtain ⟨k, rfl⟩ : ∃ q, k = q + 1 := ⟨k - 1, by omega⟩
    simp only [impl_Figure_set.l1]
    have hx := hl _ (rd_mem (l := l) (j := i) (by omega))
    obtain ⟨e1, _⟩ := grid_mul hw1 hw4 hh1 hh4
    obtain ⟨m1, m2, _⟩ := mul_bounds hw1 hw4 hh1 hh4
    rw [if_pos (by omega), if_pos (by omega), if_pos (by omega)]
    simp only [impl_Figure_grid.f, impl_grid_levels.f, Option.bind_some]
    rw [e1, w64 (w * (h + 1) + _) (by omega) (by omega), if_pos hx.1, shl_one _ hx.1 hx.2, u64_or_nat _ _ hm (pow64 (by omega)), w64 ((i : Int) + 1) (by omega) (by omega)]
    have := ih (i + 1) k (m ||| 2 ^ (w * (h + 1) + rd l (i : Int)).toNat) (by omega) (by omega) (or64 hm (pow64 (by omega)))
    rw [show ((i : Int) + 1) = ((i + 1 : Nat) : Int) by omega, this]
    rw [List.drop_eq_getElem_cons (show i < l.length by omega)]
    have e : rd l (i : Int) = l[i] := by simp [rd, show i < l.length by omega]
    rw [e]
    rfl
theorem set_l0 (w h : Int) (hw1 : 1 ≤ w) (hw4 : w ≤ 4) (hh1 : 1 ≤ h) (hh4 : h ≤ 4) (l L2 L3 : List Int) (hl : ∀ x ∈ l, 0 ≤ 0 + x ∧ 0 + x < 64) (hn : l.length ≤ 4611686018427387904) (h3 : ∀ x ∈ L3, 0 ≤ w * (h + 1) + x ∧ w * (h + 1) + x < 64) (hn3 : L3.length ≤ 4611686018427387904) : ∀ (d i k m : Nat), i + d = l.length → d + L3.length + 1 < k → m < 18446744073709551616 →
    impl_Figure_set.l0 k (m : Int) l (l.length : Int) (i : Int) w h L2 L3 = some ((acc (w * (h + 1)) L3 (acc 0 (l.drop i) m) : Nat) : Int) := by
  intro d
  induction d with
  | zero =>
    intro i k m hi hk hm
    obtain ⟨k, rfl⟩ : ∃ q, k = q + 1 := ⟨k - 1, by omega⟩
    simp only [impl_Figure_set.l0]
    rw [if_neg (by omega), List.drop_of_length_le (by omega)]
    have := set_l1 w h hw1 hw4 hh1 hh4 L3 h3 hn3 L2 L3 L3.length 0 k m (by omega) (by omega) hm
    simpa [acc] using this
  | succ d ih =>
    intro i k m hi hk hm
    obtain ⟨k, rfl⟩ : ∃ q, k = q + 1 := ⟨k - 1, by omega⟩
    simp only [impl_Figure_set.l0]
    have hx := hl _ (rd_mem (l := l) (j := i) (by omega))
    rw [Int.zero_add] at hx
    rw [if_pos (by omega), if_pos (by omega), if_pos (by omega), if_pos hx.1, shl_one _ hx.1 hx.2, u64_or_nat _ _ hm (pow64 (by omega)), w64 ((i : Int) + 1) (by omega) (by omega)]
    have := ih (i + 1) k (m ||| 2 ^ (rd l (i : Int)).toNat) (by omega) (by omega) (or64 hm (pow64 (by omega)))
    rw [show ((i : Int) + 1) = ((i + 1 : Nat) : Int) by omega, this]
    rw [List.drop_eq_getElem_cons (show i < l.length by omega)]
    have e : rd l (i : Int) = l[i] := by simp [rd, show i < l.length by omega]
    rw [e]
    simp only [acc, List.foldl_cons, Int.zero_add]
theorem set_f {w h : Int} {l2 l3 : List Int} (F : FigOK w h l2 l3) (h2 : l2.length ≤ 4611686018427387904) (h3 : l3.length ≤ 4611686018427387904) (k : Nat) (hk : l2.length + l3.length + 2 ≤ k) : impl_Figure_set.f k w h l2 l3 = some ((maskN w h l2 l3 : Nat) : Int) := by
  have := set_l0 w h F.w1 F.w4 F.h1 F.h4 l2 l2 l3 F.range2 h2 F.range3 h3 l2.length 0 k 0 (by omega) (by omega) (by decide)
  simpa [impl_Figure_set.f, maskN] using this

/-! Labels that spread over open edges: what they come to. No Go in it. -/
/-- they hang together -/
inductive Con (E : Nat → Nat → Prop) : Nat → Nat → Prop
  | refl (a : Nat) : Con E a a
  | step {a b c : Nat} : Con E a b → (E b c ∨ E c b) → Con E a c
theorem Con.trans {E : Nat → Nat → Prop} {a b c : Nat} (h : Con E a b) (k : Con E b c) : Con E a c := by
  induction k with
  | refl => exact h
  | step _ e ih => exact ih.step e
theorem Con.one {E : Nat → Nat → Prop} {a b : Nat} (h : E a b ∨ E b a) : Con E a b := (Con.refl a).step h
theorem Con.symm {E : Nat → Nat → Prop} {a b : Nat} (h : Con E a b) : Con E b a := by
  induction h with
  | refl => exact Con.refl _
  | step _ e ih => exact (Con.one e.symm).trans ih
/-- labels of cells: each is a cell that hangs together with it, and none is greater -/
structure Lab (E : Nat → Nat → Prop) (L : Nat → Nat) : Prop where
  con : ∀ a, Con E a (L a)
  le : ∀ a, L a ≤ a
def Fix (E : Nat → Nat → Prop) (L : Nat → Nat) : Prop := ∀ a b, E a b → L a = L b
theorem fix_con {E : Nat → Nat → Prop} {L : Nat → Nat} (h : Fix E L) {a b : Nat} (c : Con E a b) : L a = L b := by
  induction c with
  | refl => rfl
  | step _ e ih => rcases e with e | e
                   · exact ih.trans (h _ _ e)
                   · exact ih.trans (h _ _ e).symm
theorem Lab.least {E : Nat → Nat → Prop} {F L : Nat → Nat} (hF : Lab E F) (fF : Fix E F) (hL : Lab E L) (a : Nat) : F a ≤ L a := by
  rw [fix_con fF (hL.con a)]; exact hF.le _
/-- where labels stand still they are determined -/
theorem lab_unique {E : Nat → Nat → Prop} {F L : Nat → Nat} (hF : Lab E F) (fF : Fix E F) (hL : Lab E L) (fL : Fix E L) (a : Nat) : F a = L a :=
  Nat.le_antisymm (hF.least fF hL a) (hL.least fL hF a)
theorem lab_id (E : Nat → Nat → Prop) : Lab E (fun a => a) := ⟨fun a => Con.refl a, fun _ => Nat.le_refl _⟩
/-- an edge is followed: both ends bear the less label of the two -/
def meet (L : Nat → Nat) (a b : Nat) : Nat → Nat := fun x => if x = a ∨ x = b then min (L a) (L b) else L x
theorem lab_meet {E : Nat → Nat → Prop} {L : Nat → Nat} (h : Lab E L) {a b : Nat} (e : E a b ∨ E b a) : Lab E (meet L a b) := by
  refine ⟨fun x => ?_, fun x => ?_⟩
  · unfold meet
    by_cases hx : x = a ∨ x = b
    · rw [if_pos hx]
      have hab : Con E a b := Con.one e
      have hxa : Con E x a := by rcases hx with rfl | rfl
                                 · exact Con.refl _
                                 · exact hab.symm
      rcases Nat.le_total (L a) (L b) with q | q
      · rw [Nat.min_eq_left q]; exact hxa.trans (h.con a)
      · rw [Nat.min_eq_right q]; exact (hxa.trans hab).trans (h.con b)
    · rw [if_neg hx]; exact h.con x
  · unfold meet
    have ha := h.le a
    have hb := h.le b
    have hx := h.le x
    by_cases q : x = a ∨ x = b
    · rw [if_pos q]; rcases q with rfl | rfl <;> omega
    · rw [if_neg q]; exact hx
theorem meet_le (L : Nat → Nat) (a b x : Nat) : meet L a b x ≤ L x := by
  unfold meet
  by_cases q : x = a ∨ x = b
  · rw [if_pos q]; rcases q with rfl | rfl <;> omega
  · rw [if_neg q]; exact Nat.le_refl _
/-- how many of the first n cells bear their last label -/
def good (F L : Nat → Nat) : Nat → Nat
  | 0 => 0
  | n + 1 => good F L n + (if L n = F n then 1 else 0)
theorem good_le (F L : Nat → Nat) : ∀ n, good F L n ≤ n
  | 0 => Nat.le_refl _
  | n + 1 => by have := good_le F L n; unfold good; split <;> omega
theorem good_all {F L : Nat → Nat} : ∀ n, good F L n = n → ∀ a, a < n → L a = F a
  | 0, _, a, ha => by omega
  | n + 1, h, a, ha => by
    have := good_le F L n
    unfold good at h
    by_cases q : L n = F n
    · rw [if_pos q] at h
      by_cases e : a = n
      · subst e; exact q
      · exact good_all n (by omega) a (by omega)
    · rw [if_neg q] at h; omega
theorem good_mono {F L L' : Nat → Nat} (h : ∀ a, L a = F a → L' a = F a) : ∀ n, good F L n ≤ good F L' n
  | 0 => Nat.le_refl _
  | n + 1 => by
    have := good_mono h n
    unfold good
    by_cases q : L n = F n
    · rw [if_pos q, if_pos (h n q)]; omega
    · rw [if_neg q]; omega
theorem good_more {F L L' : Nat → Nat} (h : ∀ a, L a = F a → L' a = F a) {c : Nat} (h1 : L c ≠ F c) (h2 : L' c = F c) : ∀ n, c < n → good F L n < good F L' n
  | 0, hc => by omega
  | n + 1, hc => by
    unfold good
    by_cases e : c = n
    · subst e
      have := good_mono h c
      rw [if_neg h1, if_pos h2]; omega
    · have := good_more h h1 h2 n (by omega)
      by_cases q : L n = F n
      · rw [if_pos q, if_pos (h n q)]; omega
      · rw [if_neg q]; omega
/-- a round: no label grows, and each edge is followed at least once -/
structure Round (E : Nat → Nat → Prop) (L L' : Nat → Nat) : Prop where
  lab : Lab E L'
  le : ∀ a, L' a ≤ L a
  one : ∀ a b, E a b → L' a ≤ L b ∧ L' b ≤ L a
theorem cross {E : Nat → Nat → Prop} {p : Nat → Prop} {m a : Nat} (h : Con E m a) (hm : p m) (ha : ¬ p a) : ∃ b c, (E b c ∨ E c b) ∧ p b ∧ ¬ p c := by
  induction h with
  | refl => exact absurd hm ha
  | @step b c _ e ih =>
    by_cases q : p b
    · exact ⟨b, c, e, q, ha⟩
    · exact ih q
theorem round_grows {E : Nat → Nat → Prop} {F L L' : Nat → Nat} (n : Nat) (hE : ∀ a b, E a b → a < n ∧ b < n) (hF : Lab E F) (fF : Fix E F) (hL : Lab E L) (hR : Round E L L') : good F L' n = n ∨ good F L n < good F L' n := by
  have keep : ∀ a, L a = F a → L' a = F a := fun a h => Nat.le_antisymm (h ▸ hR.le a) (hF.least fF hR.lab a)
  by_cases hall : ∀ a, a < n → L a = F a
  · left
    have : ∀ m, m ≤ n → good F L' m = m := by
      intro m
      induction m with
      | zero => intro _; rfl
      | succ m ih => intro hm; unfold good; rw [ih (by omega), if_pos (keep m (hall m (by omega)))]
    exact this n (Nat.le_refl _)
  · right
    obtain ⟨a, ha⟩ := Classical.not_forall.1 hall
    obtain ⟨han, hne⟩ := Classical.not_imp.1 ha
    have hm : L (F a) = F (F a) := by
      have h1 : F (F a) = F a := (fix_con fF (hF.con a)).symm
      have h2 := hL.le (F a)
      have h3 := hF.least fF hL (F a)
      omega
    obtain ⟨b, c, e, hb, hc⟩ := cross (p := fun x => L x = F x) (hF.con a).symm hm hne
    have hcn : c < n := by rcases e with e | e
                           · exact (hE _ _ e).2
                           · exact (hE _ _ e).1
    have hFbc : F b = F c := by rcases e with e | e
                                · exact fF _ _ e
                                · exact (fF _ _ e).symm
    have hle : L' c ≤ L b := by rcases e with e | e
                                · exact (hR.one _ _ e).2
                                · exact (hR.one _ _ e).1
    have h2 : L' c = F c := Nat.le_antisymm (by omega) (hF.least fF hR.lab c)
    exact good_more keep hc h2 n hcn
/-- n rounds are enough -/
theorem rounds_done {E : Nat → Nat → Prop} {F : Nat → Nat} (n : Nat) (hE : ∀ a b, E a b → a < n ∧ b < n) (hF : Lab E F) (fF : Fix E F) (Ls : Nat → Nat → Nat) (h0 : Lab E (Ls 0)) (hR : ∀ t, Round E (Ls t) (Ls (t + 1))) : ∀ t, n ≤ t → ∀ a, a < n → Ls t a = F a := by
  have key : ∀ t, good F (Ls t) n = n ∨ t ≤ good F (Ls t) n := by
    intro t
    induction t with
    | zero => right; omega
    | succ t ih =>
      have hL : Lab E (Ls t) := by cases t with
        | zero => exact h0
        | succ t => exact (hR t).lab
      rcases round_grows n hE hF fF hL (hR t) with h | h
      · exact .inl h
      · have := good_le F (Ls (t + 1)) n
        rcases ih with ih | ih
        · omega
        · right; omega
  intro t ht
  rcases key t with h | h
  · exact good_all n h
  · exact good_all n (Nat.le_antisymm (good_le _ _ _) (Nat.le_trans ht h))

/-! Labels that spread over a list of edges. No Go in it. -/
theorem least_ex (p : Nat → Prop) : ∀ m, p m → ∃ b, p b ∧ ∀ c, p c → b ≤ c := by
  intro m
  induction m using Nat.strongRecOn with
  | _ m ih =>
    intro h
    by_cases q : ∃ c, c < m ∧ p c
    · obtain ⟨c, hc, hp⟩ := q
      exact ih c hc hp
    · exact ⟨m, h, fun c hc => Nat.le_of_not_lt fun hlt => q ⟨c, hlt, hc⟩⟩
/-- the least cell that hangs together with a cell -/
noncomputable def fin (E : Nat → Nat → Prop) (a : Nat) : Nat := (least_ex (Con E a) a (Con.refl a)).choose
theorem fin_con (E : Nat → Nat → Prop) (a : Nat) : Con E a (fin E a) := (least_ex (Con E a) a (Con.refl a)).choose_spec.1
theorem fin_least {E : Nat → Nat → Prop} {a c : Nat} (h : Con E a c) : fin E a ≤ c := (least_ex (Con E a) a (Con.refl a)).choose_spec.2 c h
theorem fin_lab (E : Nat → Nat → Prop) : Lab E (fin E) := ⟨fin_con E, fun a => fin_least (Con.refl a)⟩
theorem fin_fix (E : Nat → Nat → Prop) : Fix E (fin E) := fun a b e =>
  Nat.le_antisymm (fin_least ((Con.one (.inl e)).trans (fin_con E b))) (fin_least ((Con.one (.inr e)).trans (fin_con E a)))
theorem fin_idem (E : Nat → Nat → Prop) (a : Nat) : fin E (fin E a) = fin E a := (fix_con (fin_fix E) (fin_con E a)).symm
theorem fin_congr {E E' : Nat → Nat → Prop} (h : ∀ a b, E a b ↔ E' a b) : fin E = fin E' := by
  have : E = E' := by funext a b; exact propext (h a b)
  rw [this]
theorem fix_labels {E : Nat → Nat → Prop} {L : Nat → Nat} (hL : Lab E L) (fL : Fix E L) : L = fin E := by
  funext a
  exact lab_unique hL fL (fin_lab E) (fin_fix E) a
/-- edges: a number, and the two cells beside it -/
abbrev Edges := List (Nat × Nat × Nat)
/-- an edge without a match hangs two cells together -/
def Open (S : Nat) (T : Edges) (a b : Nat) : Prop := ∃ k, (k, a, b) ∈ T ∧ S.testBit k = false
def step (S : Nat) (L : Nat → Nat) (e : Nat × Nat × Nat) : Nat → Nat := if S.testBit e.1 = true then L else meet L e.2.1 e.2.2
def pass (S : Nat) (T : Edges) (L : Nat → Nat) : Nat → Nat := T.foldl (step S) L
theorem pass_nil (S : Nat) (L : Nat → Nat) : pass S [] L = L := rfl
theorem pass_cons (S : Nat) (e : Nat × Nat × Nat) (T : Edges) (L : Nat → Nat) : pass S (e :: T) L = pass S T (step S L e) := rfl
theorem meet_ends (L : Nat → Nat) (a b : Nat) : meet L a b a = min (L a) (L b) ∧ meet L a b b = min (L a) (L b) := by
  unfold meet
  exact ⟨by rw [if_pos (.inl rfl)], by rw [if_pos (.inr rfl)]⟩
theorem step_le (S : Nat) (L : Nat → Nat) (e : Nat × Nat × Nat) (x : Nat) : step S L e x ≤ L x := by
  unfold step
  split
  · exact Nat.le_refl _
  · exact meet_le _ _ _ _
theorem pass_le (S : Nat) : ∀ (T : Edges) (L : Nat → Nat) (x : Nat), pass S T L x ≤ L x
  | [], _, _ => Nat.le_refl _
  | e :: T, L, x => by rw [pass_cons]; exact Nat.le_trans (pass_le S T _ x) (step_le S L e x)
theorem pass_lab {E : Nat → Nat → Prop} (S : Nat) : ∀ (T : Edges) (L : Nat → Nat), (∀ a b, Open S T a b → E a b) → Lab E L → Lab E (pass S T L)
  | [], _, _, h => h
  | e :: T, L, hE, h => by
    rw [pass_cons]
    refine pass_lab S T _ (fun a b ⟨k, hk, hs⟩ => hE a b ⟨k, List.mem_cons_of_mem _ hk, hs⟩) ?_
    unfold step
    by_cases hs : S.testBit e.1 = true
    · rw [if_pos hs]; exact h
    · rw [if_neg hs]
      exact lab_meet h (.inl (hE _ _ ⟨e.1, List.mem_cons_self, by simpa using hs⟩))
theorem pass_one (S : Nat) : ∀ (T : Edges) (L : Nat → Nat) (a b : Nat), Open S T a b → pass S T L a ≤ L b ∧ pass S T L b ≤ L a
  | [], _, _, _, ⟨_, h, _⟩ => by cases h
  | e :: T, L, a, b, ⟨k, hk, hs⟩ => by
    rw [pass_cons]
    rcases List.mem_cons.1 hk with rfl | hk
    · have e1 : step S L (k, a, b) = meet L a b := by unfold step; rw [if_neg (by simp [hs])]
      have h1 := pass_le S T (step S L (k, a, b)) a
      have h2 := pass_le S T (step S L (k, a, b)) b
      rw [e1] at h1 h2 ⊢
      have := meet_ends L a b
      constructor <;> omega
    · have h := pass_one S T (step S L e) a b ⟨k, hk, hs⟩
      exact ⟨Nat.le_trans h.1 (step_le _ _ _ _), Nat.le_trans h.2 (step_le _ _ _ _)⟩
theorem pass_round (S : Nat) (T : Edges) (L : Nat → Nat) (h : Lab (Open S T) L) : Round (Open S T) L (pass S T L) :=
  ⟨pass_lab S T L (fun _ _ h => h) h, pass_le S T L, pass_one S T L⟩
/-- so many passes, from each cell's own number on -/
def passes (S : Nat) (T : Edges) : Nat → (Nat → Nat) → (Nat → Nat)
  | 0, L => L
  | t + 1, L => passes S T t (pass S T L)
theorem passes_succ (S : Nat) (T : Edges) : ∀ (t : Nat) (L : Nat → Nat), passes S T (t + 1) L = pass S T (passes S T t L)
  | 0, _ => rfl
  | t + 1, L => by rw [passes, passes_succ S T t]; rfl
theorem passes_done (S : Nat) (T : Edges) (n : Nat) (hT : ∀ k a b, (k, a, b) ∈ T → a < n ∧ b < n) (t : Nat) (ht : n ≤ t) (a : Nat) (ha : a < n) : passes S T t (fun a => a) a = fin (Open S T) a := by
  have hlab : ∀ t, Lab (Open S T) (passes S T t (fun a => a)) := by
    intro t
    induction t with
    | zero => exact lab_id _
    | succ t ih => rw [passes_succ]; exact pass_lab S T _ (fun _ _ h => h) ih
  exact rounds_done n (fun a b ⟨k, hk, _⟩ => hT k a b hk) (fin_lab _) (fin_fix _) (fun t => passes S T t (fun a => a)) (lab_id _) (fun t => by rw [passes_succ]; exact pass_round S T _ (hlab t)) t ht a ha
/-! ### with a flag: does a pass change a label? -/
theorem meet_same {L : Nat → Nat} {a b : Nat} (h : L a = L b) : meet L a b = L := by
  funext x
  unfold meet
  by_cases q : x = a ∨ x = b
  · rw [if_pos q]
    rcases q with rfl | rfl <;> omega
  · rw [if_neg q]
/-- two cells of an open edge bear different labels -/
def parts (S : Nat) (L : Nat → Nat) (e : Nat × Nat × Nat) : Bool := !(S.testBit e.1) && decide (L e.2.1 ≠ L e.2.2)
def flags (S : Nat) : Edges → (Nat → Nat) → Bool → Bool
  | [], _, c => c
  | e :: T, L, c => flags S T (step S L e) (c || parts S L e)
theorem flags_true (S : Nat) : ∀ (T : Edges) (L : Nat → Nat), flags S T L true = true
  | [], _ => rfl
  | e :: T, L => by rw [flags, Bool.true_or]; exact flags_true S T _
theorem step_quiet {S : Nat} {L : Nat → Nat} {e : Nat × Nat × Nat} (h : parts S L e = false) : step S L e = L := by
  unfold step
  by_cases hs : S.testBit e.1 = true
  · rw [if_pos hs]
  · rw [if_neg hs]
    refine meet_same ?_
    unfold parts at h
    simpa [hs] using h
theorem flags_false (S : Nat) : ∀ (T : Edges) (L : Nat → Nat), flags S T L false = false → pass S T L = L ∧ Fix (Open S T) L
  | [], _, _ => ⟨rfl, fun _ _ ⟨_, h, _⟩ => by cases h⟩
  | e :: T, L, h => by
    rw [flags, Bool.false_or] at h
    by_cases hp : parts S L e = true
    · rw [hp, flags_true] at h; cases h
    · have hp' : parts S L e = false := by simpa using hp
      rw [hp', step_quiet hp'] at h
      obtain ⟨h1, h2⟩ := flags_false S T L h
      refine ⟨by rw [pass_cons, step_quiet hp']; exact h1, fun a b ⟨k, hk, hs⟩ => ?_⟩
      rcases List.mem_cons.1 hk with rfl | hk
      · unfold parts at hp'
        simpa [hs] using hp'
      · exact h2 a b ⟨k, hk, hs⟩
theorem flags_fix (S : Nat) : ∀ (T : Edges) (L : Nat → Nat), Fix (Open S T) L → flags S T L false = false
  | [], _, _ => rfl
  | e :: T, L, h => by
    have hp : parts S L e = false := by
      unfold parts
      by_cases hs : S.testBit e.1 = true
      · simp [hs]
      · have := h e.2.1 e.2.2 ⟨e.1, List.mem_cons_self, by simpa using hs⟩
        simp [this]
    rw [flags, Bool.false_or, hp, step_quiet hp]
    exact flags_fix S T L (fun a b ⟨k, hk, hs⟩ => h a b ⟨k, List.mem_cons_of_mem _ hk, hs⟩)
/-- labels of the cells past the last one stay as they are -/
theorem pass_far (S : Nat) (n : Nat) : ∀ (T : Edges) (L : Nat → Nat), (∀ k a b, (k, a, b) ∈ T → a < n ∧ b < n) → ∀ x, n ≤ x → pass S T L x = L x
  | [], _, _, _, _ => rfl
  | e :: T, L, hT, x, hx => by
    rw [pass_cons, pass_far S n T _ (fun k a b h => hT k a b (List.mem_cons_of_mem _ h)) x hx]
    have := hT e.1 e.2.1 e.2.2 List.mem_cons_self
    unfold step
    split
    · rfl
    · unfold meet
      rw [if_neg (by omega)]
theorem passes_far (S : Nat) (n : Nat) (T : Edges) (hT : ∀ k a b, (k, a, b) ∈ T → a < n ∧ b < n) : ∀ (t : Nat) (L : Nat → Nat) (x : Nat), n ≤ x → passes S T t L x = L x
  | 0, _, _, _ => rfl
  | t + 1, L, x, hx => by rw [passes, passes_far S n T hT t _ x hx]; exact pass_far S n T L hT x hx
theorem fin_far {S n : Nat} {T : Edges} (hT : ∀ k a b, (k, a, b) ∈ T → a < n ∧ b < n) (x : Nat) (hx : n ≤ x) : fin (Open S T) x = x := by
  have h := fin_con (Open S T) x
  have hE : ∀ a b, Open S T a b → a < n ∧ b < n := fun a b ⟨k, hk, _⟩ => hT k a b hk
  generalize fin (Open S T) x = y at h
  induction h with
  | refl => rfl
  | @step b c _ e ih =>
    have := ih
    rcases e with e | e
    · have := (hE _ _ e).1; omega
    · have := (hE _ _ e).2; omega
theorem passes_all (S : Nat) (T : Edges) (n : Nat) (hT : ∀ k a b, (k, a, b) ∈ T → a < n ∧ b < n) (t : Nat) (ht : n ≤ t) : passes S T t (fun a => a) = fin (Open S T) := by
  funext a
  by_cases ha : a < n
  · exact passes_done S T n hT t ht a ha
  · rw [passes_far S n T hT t _ a (by omega), fin_far hT a (by omega)]
/-- a pass of one that still changes something comes nearer to the last labels: so that after n + 1 passes nothing changes any more -/
theorem flags_done (S : Nat) (T : Edges) (n : Nat) (hT : ∀ k a b, (k, a, b) ∈ T → a < n ∧ b < n) (t : Nat) (ht : n ≤ t) : flags S T (passes S T t (fun a => a)) false = false := by
  rw [passes_all S T n hT t ht]
  exact flags_fix S T _ (fin_fix _)

/-! The inner edges of a grid, as the program goes through them, and as the reference does. -/
def numK (w h : Nat) : Nat := w * (h + 1) + h * (w + 1)
def imgEdge (w h k : Nat) : Edges := if 0 ≤ (sides w h k).1 ∧ 0 ≤ (sides w h k).2 then [(k, (sides w h k).1.toNat, (sides w h k).2.toNat)] else []
def imgEdges (w h : Nat) : Nat → Nat → Edges
  | _, 0 => []
  | i, d + 1 => imgEdge w h i ++ imgEdges w h (i + 1) d
def cellEdges (w h x y : Nat) : Edges :=
  (if x + 1 < w then [(w * (h + 1) + (y * (w + 1) + x + 1), y * w + x, y * w + x + 1)] else []) ++ (if y + 1 < h then [((y + 1) * w + x, y * w + x, y * w + x + w)] else [])
def rowEdges (w h y : Nat) : Nat → Nat → Edges
  | _, 0 => []
  | x, d + 1 => cellEdges w h x y ++ rowEdges w h y (x + 1) d
def refEdges (w h : Nat) : Nat → Nat → Edges
  | _, 0 => []
  | y, d + 1 => rowEdges w h y 0 w ++ refEdges w h (y + 1) d
def EdgesOK (w h : Nat) : Prop :=
  (∀ e ∈ imgEdges w h 0 (numK w h), e ∈ refEdges w h 0 h) ∧ (∀ e ∈ refEdges w h 0 h, e ∈ imgEdges w h 0 (numK w h)) ∧ (∀ e ∈ imgEdges w h 0 (numK w h), e.1 < numK w h ∧ e.2.1 < w * h ∧ e.2.2 < w * h)
instance (w h : Nat) : Decidable (EdgesOK w h) := by unfold EdgesOK; infer_instance
theorem edges_all : ∀ w : Fin 4, ∀ h : Fin 4, EdgesOK (w.val + 1) (h.val + 1) := by decide +kernel
theorem edges_ok {w h : Nat} (w1 : 1 ≤ w) (w4 : w ≤ 4) (h1 : 1 ≤ h) (h4 : h ≤ 4) : EdgesOK w h := by
  have := edges_all ⟨w - 1, by omega⟩ ⟨h - 1, by omega⟩
  simp only at this
  rw [show w - 1 + 1 = w by omega, show h - 1 + 1 = h by omega] at this
  exact this
def SidesOK (w h : Nat) : Prop := ∀ k : Fin 40, k.val < numK w h →
  ((sides w h k.val).1 = -1 ∨ 0 ≤ (sides w h k.val).1 ∧ (sides w h k.val).1 < w * h) ∧ ((sides w h k.val).2 = -1 ∨ 0 ≤ (sides w h k.val).2 ∧ (sides w h k.val).2 < w * h)
instance (w h : Nat) : Decidable (SidesOK w h) := by unfold SidesOK; infer_instance
theorem sides_all : ∀ w : Fin 4, ∀ h : Fin 4, SidesOK (w.val + 1) (h.val + 1) ∧ numK (w.val + 1) (h.val + 1) ≤ 40 := by decide +kernel
theorem sides_ok {w h : Nat} (w1 : 1 ≤ w) (w4 : w ≤ 4) (h1 : 1 ≤ h) (h4 : h ≤ 4) : numK w h ≤ 40 ∧ ∀ k : Nat, k < numK w h →
    ((sides w h k).1 = -1 ∨ 0 ≤ (sides w h k).1 ∧ (sides w h k).1 < w * h) ∧ ((sides w h k).2 = -1 ∨ 0 ≤ (sides w h k).2 ∧ (sides w h k).2 < w * h) := by
  have := sides_all ⟨w - 1, by omega⟩ ⟨h - 1, by omega⟩
  simp only at this
  rw [show w - 1 + 1 = w by omega, show h - 1 + 1 = h by omega] at this
  exact ⟨this.2, fun k hk => this.1 ⟨k, by omega⟩ hk⟩
theorem mem_img {w h : Nat} {e : Nat × Nat × Nat} : ∀ (d i : Nat), e ∈ imgEdges w h i d ↔ ∃ k, i ≤ k ∧ k < i + d ∧ e ∈ imgEdge w h k
  | 0, i => ⟨fun h => (by cases h), fun ⟨k, h1, h2, _⟩ => by omega⟩
  | d + 1, i => by
    rw [imgEdges, List.mem_append, mem_img d (i + 1)]
    constructor
    · rintro (h | ⟨k, h1, h2, h3⟩)
      · exact ⟨i, Nat.le_refl _, by omega, h⟩
      · exact ⟨k, by omega, by omega, h3⟩
    · rintro ⟨k, h1, h2, h3⟩
      by_cases q : k = i
      · subst q; exact .inl h3
      · exact .inr ⟨k, by omega, by omega, h3⟩
theorem open_same {w h S : Nat} (h0 : EdgesOK w h) : fin (Open S (imgEdges w h 0 (numK w h))) = fin (Open S (refEdges w h 0 h)) :=
  fin_congr fun a b => ⟨fun ⟨k, hk, hs⟩ => ⟨k, h0.1 _ hk, hs⟩, fun ⟨k, hk, hs⟩ => ⟨k, h0.2.1 _ hk, hs⟩⟩

/-! A bit, and sets without a set. -/
theorem shr_any (m n : Nat) (hn : n ≤ 64) : shr .u64 (m : Int) (n : Int) = ((m / 2 ^ n : Nat) : Int) := by
  unfold shr
  have e : min (n : Int).toNat (IntKind.u64.bits) = n := by rw [Int.toNat_natCast]; exact Nat.min_eq_left hn
  rw [e]
  push_cast
  rfl
theorem bit_is (m n : Nat) (hm : m < 18446744073709551616) (hn : n ≤ 64) : (Go.bits .and .u64 (shr .u64 (m : Int) (n : Int)) 1 = 1) ↔ m.testBit n = true := by
  rw [shr_any m n hn, show (1 : Int) = ((1 : Nat) : Int) from rfl, u64_and_nat _ 1 (Nat.lt_of_le_of_lt (Nat.div_le_self _ _) hm) (by decide), Nat.and_one_is_mod, Nat.testBit_eq_decide_div_mod_eq]
  simp only [decide_eq_true_eq]
  exact ⟨fun h => Int.ofNat.inj h, fun h => by rw [h]⟩
/-- the bits of a that b has not -/
def sans (a b : Nat) : Nat := a &&& (18446744073709551615 - b)
theorem sans_bit (a b j : Nat) (ha : a < 18446744073709551616) (hb : b < 18446744073709551616) : (sans a b).testBit j = (a.testBit j && !b.testBit j) := by
  unfold sans
  have e : 18446744073709551615 - b = 2 ^ 64 - (b + 1) := by omega
  rw [Nat.testBit_and, e, Nat.testBit_two_pow_sub_succ (by omega)]
  by_cases h : j < 64
  · simp [h]
  · have : a.testBit j = false := Nat.testBit_lt_two_pow (Nat.lt_of_lt_of_le ha (Nat.le_trans (by decide) (Nat.pow_le_pow_right (by decide : 0 < 2) (show 64 ≤ j by omega))))
    simp [this]
theorem sans_le (a b : Nat) : sans a b ≤ a := Nat.and_le_left
theorem sans_u64 (a b : Nat) (ha : a < 18446744073709551616) (hb : b < 18446744073709551616) : Go.bits .andNot .u64 (a : Int) (b : Int) = ((sans a b : Nat) : Int) := u64_andNot_nat a b ha hb
theorem sans_i64 (a b : Nat) (ha : a < 4611686018427387904) (hb : b < 4611686018427387904) : Go.bits .andNot .i64 (a : Int) (b : Int) = ((sans a b : Nat) : Int) := by
  have hx : a &&& (18446744073709551615 - b) ≤ a := Nat.and_le_left
  show IntKind.i64.wrap ((BitVec.ofInt 64 (a : Int) &&& ~~~BitVec.ofInt 64 (b : Int)).toNat : Int) = _
  have ofs : ∀ n : Nat, n < 18446744073709551616 → (BitVec.ofInt 64 (n : Int)).toNat = n := fun n hn => by
    rw [BitVec.toNat_ofInt]; omega
  rw [BitVec.toNat_and, BitVec.toNat_not, ofs a (by omega), ofs b (by omega), IntKind.wrap_i64]
  have e : 2 ^ 64 - 1 - b = 18446744073709551615 - b := by omega
  rw [e]
  unfold sans
  omega

/-! The program's regions: what they come to. -/
/-- a list of numbers that reads as labels -/
structure LR (x : List Int) (f : Nat → Nat) (m : Nat) : Prop where
  len : x.length = m
  val : ∀ j : Nat, j < m → rd x (j : Int) = (f j : Int)
theorem rd_put (l : List Int) (i j : Nat) (v : Int) (hj : j < l.length) : rd (l.set i v) (j : Int) = if i = j then v else rd l (j : Int) := by
  simp [rd, List.getElem?_set]
  by_cases h : i = j
  · subst h; simp [hj]
  · simp [h]
theorem mn_nat (a b : Nat) : mn (a : Int) (b : Int) = ((min a b : Nat) : Int) := by
  have hmn : ∀ x y : Int, mn x y = if y < x then y else x := fun _ _ => rfl
  rw [hmn]
  split <;> omega
theorem mx_val (a b : Int) : mx a b = if a < b then b else a := rfl
theorem LR.put2 {x : List Int} {f : Nat → Nat} {m a b : Nat} (h : LR x f m) (ha : a < m) (hb : b < m) {v : Int} (hv : v = mn (rd x (a : Int)) (rd x (b : Int))) : LR ((x.set a v).set b v) (meet f a b) m := by
  have e : v = ((min (f a) (f b) : Nat) : Int) := by rw [hv, h.val a ha, h.val b hb, mn_nat]
  refine ⟨by simp [h.len], fun j hj => ?_⟩
  rw [rd_put _ _ _ _ (by simp [h.len]; exact hj), rd_put _ _ _ _ (by rw [h.len]; exact hj), h.val j hj]
  unfold meet
  by_cases q1 : b = j
  · rw [if_pos q1, if_pos (.inr q1.symm), e]
  · rw [if_neg q1]
    by_cases q2 : a = j
    · rw [if_pos q2, if_pos (.inl q2.symm), e]
    · rw [if_neg q2, if_neg (fun q => q.elim (fun q => q2 q.symm) (fun q => q1 q.symm))]
theorem pass_append (S : Nat) (A B : Edges) (L : Nat → Nat) : pass S (A ++ B) L = pass S B (pass S A L) := List.foldl_append
theorem beside_f {w h : Nat} (w1 : 1 ≤ w) (w4 : w ≤ 4) (h1 : 1 ≤ h) (h4 : h ≤ 4) (i : Nat) (hi : i ≤ 40) : impl_grid_beside.f (w : Int) (h : Int) (i : Int) = some (sides w h i) := by
  unfold impl_grid_beside.f
  rw [if_pos (by omega)]
theorem toNat_of {x : Int} {n : Nat} (h : 0 ≤ x ∧ x < n) : ∃ a : Nat, x = (a : Int) ∧ a < n := ⟨x.toNat, by omega, by omega⟩
theorem levels_up {w h : Nat} (w1 : 1 ≤ w) (w4 : w ≤ 4) (h1 : 1 ≤ h) (h4 : h ≤ 4) : impl_grid_levels.f (w : Int) (h : Int) = some ((w * (h + 1) : Nat) : Int) ∧ impl_grid_uprights.f (w : Int) (h : Int) = some ((h * (w + 1) : Nat) : Int) ∧ wrap64 (((w * (h + 1) : Nat) : Int) + ((h * (w + 1) : Nat) : Int)) = ((numK w h : Nat) : Int) := by
  have hK := (sides_ok w1 w4 h1 h4).1
  unfold numK at hK
  refine ⟨?_, ?_, ?_⟩
  · unfold impl_grid_levels.f
    rw [w64 ((h : Int) + 1) (by omega) (by omega), show (w : Int) * ((h : Int) + 1) = ((w * (h + 1) : Nat) : Int) by push_cast; rfl, w64 _ (by omega) (by omega)]
  · unfold impl_grid_uprights.f
    rw [w64 ((w : Int) + 1) (by omega) (by omega), show (h : Int) * ((w : Int) + 1) = ((h * (w + 1) : Nat) : Int) by push_cast; rfl, w64 _ (by omega) (by omega)]
  · rw [w64 _ (by omega) (by omega)]; unfold numK; omega
section
variable {w h : Nat} (w1 : 1 ≤ w) (w4 : w ≤ 4) (h1 : 1 ≤ h) (h4 : h ≤ 4) (S : Nat) (hS : S < 18446744073709551616) {r : List (List Int)}
include w1 w4 h1 h4 hS
theorem reg_l2 (x36 x37 : Int) : ∀ (d i k B : Nat) (x8 : List Int) (f : Nat → Nat), i + d = numK w h → LR x8 f (w * h + 1) →
    (∀ k' x8', B ≤ k' → LR x8' (pass S (imgEdges w h i d) f) (w * h + 1) → impl_grid_regions.l1 k' (S : Int) false ((w * h : Nat) : Int) x8' x36 (wrap64 (x37 + 1)) w h = some r) →
    B + 2 * d + 1 ≤ k → impl_grid_regions.l2 k (S : Int) false ((w * h : Nat) : Int) x8 x36 x37 ((numK w h : Nat) : Int) (i : Int) w h = some r := by
  have hK := sides_ok w1 w4 h1 h4
  intro d
  induction d with
  | zero =>
    intro i k B x8 f hi hx hc hk
    obtain ⟨k, rfl⟩ : ∃ p, k = p + 1 := ⟨k - 1, by omega⟩
    simp only [impl_grid_regions.l2]
    rw [if_neg (by omega)]
    exact hc k x8 (by omega) hx
  | succ d ih =>
    intro i k B x8 f hi hx hc hk
    obtain ⟨k, rfl⟩ : ∃ p, k = p + 2 := ⟨k - 2, by omega⟩
    have hs := hK.2 i (by omega)
    have hn : w * h ≤ 16 := Nat.mul_le_mul w4 h4
    have hnx : wrap64 ((i : Int) + 1) = ((i + 1 : Nat) : Int) := by rw [w64 _ (by omega) (by omega)]; omega
    -- where nothing is set
    have skip : imgEdge w h i = [] ∨ S.testBit i = true → impl_grid_regions.l2 k (S : Int) false ((w * h : Nat) : Int) x8 x36 x37 ((numK w h : Nat) : Int) (wrap64 ((i : Int) + 1)) w h = some r := by
      intro hq
      rw [hnx]
      refine ih (i + 1) k B x8 f (by omega) hx (fun k' x8' hk' hx' => hc k' x8' hk' ?_) (by omega)
      have e : pass S (imgEdges w h i (d + 1)) f = pass S (imgEdges w h (i + 1) d) f := by
        rw [imgEdges, pass_append]
        congr 1
        rcases hq with hq | hq
        · rw [hq, pass_nil]
        · unfold imgEdge
          split
          · rw [pass_cons, pass_nil]; unfold step; rw [if_pos hq]
          · rw [pass_nil]
      rw [e]; exact hx'
    simp only [impl_grid_regions.l2]
    rw [if_pos (by omega), beside_f w1 w4 h1 h4 i (by omega), Option.bind_some]
    obtain ⟨ha, hb⟩ := hs
    rcases ha with ha | ha
    · -- outside at one side
      have hE : imgEdge w h i = [] := by unfold imgEdge; rw [if_neg (by omega)]
      rw [if_pos (by omega)]
      simp only [impl_grid_regions.j3]
      rcases hb with hb | hb
      · rw [if_pos (by omega), if_pos (by omega)]
        split
        · exact skip (.inl hE)
        · rw [if_neg (by simp), if_pos (by rw [mx_val]; split <;> omega)]
          exact skip (.inl hE)
      · rw [if_neg (by omega), if_pos (by omega)]
        split
        · exact skip (.inl hE)
        · rw [if_neg (by simp), if_pos (by rw [mx_val]; split <;> omega)]
          exact skip (.inl hE)
    · rw [if_neg (by omega)]
      simp only [impl_grid_regions.j3]
      rcases hb with hb | hb
      · have hE : imgEdge w h i = [] := by unfold imgEdge; rw [if_neg (by omega)]
        rw [if_pos (by omega), if_pos (by omega)]
        split
        · exact skip (.inl hE)
        · rw [if_neg (by simp), if_pos (by rw [mx_val]; split <;> omega)]
          exact skip (.inl hE)
      · rw [if_neg (by omega), if_pos (by omega)]
        by_cases hs : S.testBit i = true
        · rw [if_pos ((bit_is S i hS (by omega)).2 hs)]
          exact skip (.inr hs)
        · rw [if_neg (fun q => hs ((bit_is S i hS (by omega)).1 q)), if_neg (by simp)]
          have hc1 : ((w : Int) * h) = ((w * h : Nat) : Int) := by push_cast; rfl
          rw [hc1] at ha hb
          obtain ⟨a, ea, la⟩ := toNat_of ha
          obtain ⟨b, eb, lb⟩ := toNat_of hb
          have hE : imgEdge w h i = [(i, a, b)] := by unfold imgEdge; rw [if_pos ⟨ha.1, hb.1⟩, ea, eb]; simp
          rw [ea, eb, if_neg (by rw [mx_val]; split <;> omega), if_pos (by omega), if_pos (by rw [hx.len]; omega), if_pos (by omega), if_pos (by rw [hx.len]; omega), Int.toNat_natCast, Int.toNat_natCast, hnx]
          refine ih (i + 1) k B _ (meet f a b) (by omega) (hx.put2 (by omega) (by omega) rfl) (fun k' x8' hk' hx' => hc k' x8' hk' ?_) (by omega)
          rw [imgEdges, pass_append, hE, pass_cons, pass_nil]
          have : step S f (i, a, b) = meet f a b := by unfold step; rw [if_neg hs]
          rw [this]; exact hx'
theorem reg_l1 (m : Nat) (hm : m ≤ 100) : ∀ (d t k B : Nat) (x8 : List Int) (f : Nat → Nat), t + d = m → LR x8 f (w * h + 1) →
    (∀ k' x8', B ≤ k' → LR x8' (passes S (imgEdges w h 0 (numK w h)) d f) (w * h + 1) → impl_grid_regions.l3 k' false ((w * h : Nat) : Int) x8' ([] : List (List Int)) ((w * h : Nat) : Int) 0 = some r) →
    B + d * 90 + 1 ≤ k → impl_grid_regions.l1 k (S : Int) false ((w * h : Nat) : Int) x8 (m : Int) (t : Int) w h = some r := by
  have hK := sides_ok w1 w4 h1 h4
  obtain ⟨g1, g2, g3⟩ := levels_up w1 w4 h1 h4
  intro d
  induction d with
  | zero =>
    intro t k B x8 f ht hx hc hk
    obtain ⟨k, rfl⟩ : ∃ p, k = p + 1 := ⟨k - 1, by omega⟩
    simp only [impl_grid_regions.l1]
    rw [if_neg (by omega)]
    exact hc k x8 (by omega) hx
  | succ d ih =>
    intro t k B x8 f ht hx hc hk
    obtain ⟨k, rfl⟩ : ∃ p, k = p + 1 := ⟨k - 1, by omega⟩
    simp only [impl_grid_regions.l1]
    rw [if_pos (by omega), g1, Option.bind_some, g2, Option.bind_some, g3]
    have hnx : wrap64 ((t : Int) + 1) = ((t + 1 : Nat) : Int) := by rw [w64 _ (by omega) (by omega)]; omega
    refine reg_l2 w1 w4 h1 h4 S hS (m : Int) (t : Int) (numK w h) 0 k (B + d * 90 + 1) x8 f (by omega) hx (fun k' x8' hk' hx' => ?_) (by omega)
    rw [hnx]
    exact ih (t + 1) k' B x8' _ (by omega) hx' hc hk'
end

/-- the cells from i on that bear the label c -/
def ownFrom (f : Nat → Nat) (c i d : Nat) : List Int := ((List.range' i d).filter fun j => f j == c).map fun j : Nat => (j : Int)
theorem ownFrom_zero (f : Nat → Nat) (c i : Nat) : ownFrom f c i 0 = [] := rfl
theorem ownFrom_succ (f : Nat → Nat) (c i d : Nat) : ownFrom f c i (d + 1) = if f i = c then (i : Int) :: ownFrom f c (i + 1) d else ownFrom f c (i + 1) d := by
  unfold ownFrom
  rw [List.range'_succ, List.filter_cons]
  by_cases h : f i = c
  · simp [h]
  · simp [h]
theorem ownFrom_length (f : Nat → Nat) (c i d : Nat) : (ownFrom f c i d).length ≤ d := by
  unfold ownFrom
  rw [List.length_map]
  exact Nat.le_trans (List.length_filter_le _ _) (by simp)
theorem mem_own {f : Nat → Nat} {c i d : Nat} {x : Int} : x ∈ ownFrom f c i d ↔ ∃ j : Nat, x = (j : Int) ∧ i ≤ j ∧ j < i + d ∧ f j = c := by
  unfold ownFrom
  simp only [List.mem_map, List.mem_filter, List.mem_range'_1, beq_iff_eq]
  constructor
  · rintro ⟨j, ⟨⟨q1, q2⟩, q3⟩, rfl⟩; exact ⟨j, rfl, q1, q2, q3⟩
  · rintro ⟨j, rfl, q1, q2, q3⟩; exact ⟨j, ⟨⟨q1, q2⟩, q3⟩, rfl⟩
/-- the pieces, in the order of their labels -/
def piecesFrom (f : Nat → Nat) (n : Nat) : Nat → Nat → List (List Int)
  | _, 0 => []
  | c, d + 1 => (if ownFrom f c 0 n = [] then [] else [ownFrom f c 0 n]) ++ piecesFrom f n (c + 1) d
theorem pieces_length (f : Nat → Nat) (n : Nat) : ∀ (d c : Nat), (piecesFrom f n c d).length ≤ d
  | 0, _ => Nat.le_refl _
  | d + 1, c => by
    have := pieces_length f n d (c + 1)
    rw [piecesFrom, List.length_append]
    split
    · simp; omega
    · simp; omega
theorem rd_take (x : List Int) (n j : Nat) (hj : j < n) : rd (x.take n) (j : Int) = rd x (j : Int) := by
  simp [rd, List.getElem?_take, hj]
theorem reg_l4 (n : Nat) (hn : n ≤ 16) (f : Nat → Nat) (x8 : List Int) (hx : LR x8 f (n + 1)) {r : List (List Int)} (c : Nat) (x14 : List (List Int)) (h14 : x14.length ≤ 100) : ∀ (d j k B : Nat) (x16 : List Int), j + d = n → x16.length + d ≤ 100 → B + d + 1 ≤ k →
    (∀ k' , B ≤ k' → impl_grid_regions.l3 k' false (n : Int) x8 (x14 ++ if x16 ++ ownFrom f c j d = [] then [] else [x16 ++ ownFrom f c j d]) (n : Int) (wrap64 ((c : Int) + 1)) = some r) →
    impl_grid_regions.l4 k false (n : Int) x8 x14 (c : Int) x16 (n : Int) (c : Int) (x8.take n) (n : Int) (j : Int) = some r := by
  intro d
  induction d with
  | zero =>
    intro j k B x16 hj hl hk hc
    obtain ⟨k, rfl⟩ : ∃ p, k = p + 1 := ⟨k - 1, by omega⟩
    simp only [impl_grid_regions.l4]
    rw [if_neg (by omega)]
    have hc := hc k (by omega)
    rw [ownFrom_zero, List.append_nil] at hc
    by_cases h0 : x16 = []
    · rw [if_pos h0, List.append_nil] at hc
      rw [if_neg (by simp [h0])]
      exact hc
    · rw [if_neg h0] at hc
      have : x16.length ≠ 0 := fun q => h0 (List.eq_nil_of_length_eq_zero q)
      rw [if_pos (by omega), if_neg (by simp), if_pos (by omega)]
      exact hc
  | succ d ih =>
    intro j k B x16 hj hl hk hc
    obtain ⟨k, rfl⟩ : ∃ p, k = p + 1 := ⟨k - 1, by omega⟩
    have hlen : (x8.take n).length = n := by rw [List.length_take, hx.len]; omega
    simp only [impl_grid_regions.l4]
    rw [if_pos (by omega), if_pos (by omega), if_pos (by rw [hlen]; omega), rd_take x8 n j (by omega), hx.val j (by omega), w64 ((j : Int) + 1) (by omega) (by omega), show ((j : Int) + 1) = ((j + 1 : Nat) : Int) by omega]
    rw [ownFrom_succ] at hc
    by_cases hq : f j = c
    · rw [if_pos hq] at hc
      rw [if_pos (by rw [hq]), if_pos (by omega)]
      refine ih (j + 1) k B (x16 ++ [(j : Int)]) (by omega) (by simp; omega) (by omega) (fun k' hk' => ?_)
      have := hc k' hk'
      rw [show x16 ++ [(j : Int)] ++ ownFrom f c (j + 1) d = x16 ++ (j : Int) :: ownFrom f c (j + 1) d by simp]
      exact this
    · rw [if_neg hq] at hc
      rw [if_neg (by omega)]
      exact ih (j + 1) k B x16 (by omega) (by omega) (by omega) hc
theorem reg_l3 (n : Nat) (hn : n ≤ 16) (f : Nat → Nat) (x8 : List Int) (hx : LR x8 f (n + 1)) : ∀ (d c k : Nat) (x14 : List (List Int)), c + d = n → x14.length + d ≤ 50 → d * 20 + 1 ≤ k →
    impl_grid_regions.l3 k false (n : Int) x8 x14 (n : Int) (c : Int) = some (x14 ++ piecesFrom f n c d) := by
  intro d
  induction d with
  | zero =>
    intro c k x14 hc hl hk
    obtain ⟨k, rfl⟩ : ∃ p, k = p + 1 := ⟨k - 1, by omega⟩
    simp only [impl_grid_regions.l3]
    rw [if_neg (by omega), piecesFrom, List.append_nil]
  | succ d ih =>
    intro c k x14 hc hl hk
    obtain ⟨k, rfl⟩ : ∃ p, k = p + 1 := ⟨k - 1, by omega⟩
    have hlen : (x8.take n).length = n := by rw [List.length_take, hx.len]; omega
    simp only [impl_grid_regions.l3]
    rw [if_pos (by omega), if_pos (by omega), if_pos (by rw [hx.len]; omega), Option.bind_some, Int.toNat_natCast, hlen]
    refine reg_l4 n hn f x8 hx c x14 (by omega) n 0 k (d * 20 + 1) [] (by omega) (by simp; omega) (by omega) (fun k' hk' => ?_)
    rw [w64 ((c : Int) + 1) (by omega) (by omega), show ((c : Int) + 1) = ((c + 1 : Nat) : Int) by omega, List.nil_append, piecesFrom]
    have hl2 : (x14 ++ if ownFrom f c 0 n = [] then [] else [ownFrom f c 0 n]).length + d ≤ 50 := by
      rw [List.length_append]; split <;> simp <;> omega
    rw [ih (c + 1) k' _ (by omega) hl2 hk', List.append_assoc]
section
variable {w h : Nat} (w1 : 1 ≤ w) (w4 : w ≤ 4) (h1 : 1 ≤ h) (h4 : h ≤ 4) (S : Nat) (hS : S < 18446744073709551616)
include w1 w4 h1 h4 hS
theorem reg_l0 : ∀ (d i k : Nat) (x8 : List Int), i + d = w * h + 1 → LR x8 (fun a => a) i → d + 2000 ≤ k →
    impl_grid_regions.l0 k (S : Int) false ((w * h : Nat) : Int) x8 ((w * h + 1 : Nat) : Int) (i : Int) w h = some (piecesFrom (fin (Open S (imgEdges w h 0 (numK w h)))) (w * h) 0 (w * h)) := by
  have hn : w * h ≤ 16 := Nat.mul_le_mul w4 h4
  intro d
  induction d with
  | zero =>
    intro i k x8 hi hx hk
    obtain ⟨k, rfl⟩ : ∃ p, k = p + 1 := ⟨k - 1, by omega⟩
    obtain rfl : i = w * h + 1 := by omega
    simp only [impl_grid_regions.l0]
    rw [if_neg (by omega), w64 (((w * h : Nat) : Int) + 1) (by omega) (by omega), show (((w * h : Nat) : Int) + 1) = ((w * h + 1 : Nat) : Int) by omega]
    refine reg_l1 w1 w4 h1 h4 S hS (w * h + 1) (by omega) (w * h + 1) 0 k 330 x8 _ (by omega) hx (fun k' x8' hk' hx' => ?_) (by omega)
    have hE := (edges_ok w1 w4 h1 h4).2.2
    rw [passes_all S _ (w * h) (fun k a b hm => (hE (k, a, b) hm).2) _ (by omega)] at hx'
    have := reg_l3 (w * h) hn _ x8' hx' (w * h) 0 k' [] (by omega) (by simp; omega) (by omega)
    rw [List.nil_append] at this
    exact this
  | succ d ih =>
    intro i k x8 hi hx hk
    obtain ⟨k, rfl⟩ : ∃ p, k = p + 1 := ⟨k - 1, by omega⟩
    simp only [impl_grid_regions.l0]
    rw [if_pos (by omega), if_pos (by rw [hx.len]; omega), w64 ((i : Int) + 1) (by omega) (by omega), show ((i : Int) + 1) = ((i + 1 : Nat) : Int) by omega]
    refine ih (i + 1) k _ (by omega) ⟨by simp [hx.len], fun j hj => ?_⟩ (by omega)
    by_cases q : j < i
    · have e : rd (x8 ++ [(i : Int)]) (j : Int) = rd x8 (j : Int) := by simp [rd, List.getElem?_append, hx.len, q]
      rw [e, hx.val j q]
    · obtain rfl : j = i := by omega
      simp [rd, hx.len]
theorem regions_f (k : Nat) (hk : 2100 ≤ k) : impl_grid_regions.f k (w : Int) (h : Int) (S : Int) false = some (piecesFrom (fin (Open S (imgEdges w h 0 (numK w h)))) (w * h) 0 (w * h)) := by
  have hn : w * h ≤ 16 := Nat.mul_le_mul w4 h4
  unfold impl_grid_regions.f
  have e : wrap64 ((w : Int) * h) = ((w * h : Nat) : Int) := by rw [show ((w : Int) * h) = ((w * h : Nat) : Int) by push_cast; rfl, w64 _ (by omega) (by omega)]
  rw [e, w64 (((w * h : Nat) : Int) + 1) (by omega) (by omega), show (((w * h : Nat) : Int) + 1) = ((w * h + 1 : Nat) : Int) by omega]
  exact reg_l0 w1 w4 h1 h4 S hS (w * h + 1) 0 k [] (by omega) ⟨rfl, fun j hj => by omega⟩ (by omega)
end

/-! A mask's bits and a figure's lists. -/
theorem mask_low {w h : Nat} {l2 l3 : List Int} (F : FigOK (w : Int) (h : Int) l2 l3) (j : Nat) (hj : j < w * (h + 1)) : (maskN w h l2 l3).testBit j = true ↔ (j : Int) ∈ l2 := by
  unfold maskN
  rw [acc_testBit _ _ _ _ (fun y hy => (F.range3 y hy).1), acc_testBit _ _ _ _ (fun y hy => (F.range2 y hy).1)]
  have e : (w : Int) * ((h : Int) + 1) = ((w * (h + 1) : Nat) : Int) := by push_cast; rfl
  rw [e]
  constructor
  · rintro ((q | q) | q)
    · simp at q
    · simpa using q
    · have := (F.in3 _ q).1
      omega
  · intro q
    exact .inl (.inr (by simpa using q))
theorem mask_high {w h : Nat} {l2 l3 : List Int} (F : FigOK (w : Int) (h : Int) l2 l3) (j : Nat) : (maskN w h l2 l3).testBit (w * (h + 1) + j) = true ↔ (j : Int) ∈ l3 := by
  unfold maskN
  rw [acc_testBit _ _ _ _ (fun y hy => (F.range3 y hy).1), acc_testBit _ _ _ _ (fun y hy => (F.range2 y hy).1)]
  have e : (w : Int) * ((h : Int) + 1) = ((w * (h + 1) : Nat) : Int) := by push_cast; rfl
  rw [e]
  have e2 : (((w * (h + 1) + j : Nat) : Int) - ((w * (h + 1) : Nat) : Int)) = (j : Int) := by omega
  rw [e2]
  constructor
  · rintro ((q | q) | q)
    · simp at q
    · have := (F.in2 _ q).2
      rw [e] at this
      omega
    · exact q
  · intro q
    exact .inr q

/-! A figure's bits, and a list that holds a number. -/
theorem has_l (v : Int) (l : List Int) (hn : l.length ≤ 1000000) : ∀ (d i k : Nat), i + d = l.length → d < k → spec_l1Has.l0 k v l (l.length : Int) (i : Int) = some (decide (v ∈ l.drop i)) := by
  intro d
  induction d with
  | zero =>
    intro i k hi hk
    obtain ⟨k, rfl⟩ : ∃ p, k = p + 1 := ⟨k - 1, by omega⟩
    simp only [spec_l1Has.l0]
    rw [if_neg (by omega), List.drop_of_length_le (by omega)]
    simp
  | succ d ih =>
    intro i k hi hk
    obtain ⟨k, rfl⟩ : ∃ p, k = p + 1 := ⟨k - 1, by omega⟩
    simp only [spec_l1Has.l0]
    have hlt : i < l.length := by omega
    have e : rd l (i : Int) = l[i] := by simp [rd, hlt]
    rw [if_pos (by omega), if_pos (by omega), if_pos (by omega), e, List.drop_eq_getElem_cons hlt]
    clear e
    generalize l[i] = u
    by_cases q : u = v
    · rw [if_pos q, q]; simp
    · rw [if_neg q, w64 ((i : Int) + 1) (by omega) (by omega), show ((i : Int) + 1) = ((i + 1 : Nat) : Int) by omega, ih (i + 1) k (by omega) (by omega)]
      congr 1
      rw [Bool.eq_iff_iff]
      simp [Ne.symm q]
theorem has_f (v : Int) (l : List Int) (hn : l.length ≤ 1000000) (k : Nat) (hk : l.length + 1 ≤ k) : spec_l1Has.f k l v = some (decide (v ∈ l)) := by
  have := has_l v l hn l.length 0 k (by omega) (by omega)
  simpa [spec_l1Has.f] using this

/-! The reference's groups: what they come to. -/
theorem flags_append (S : Nat) : ∀ (A B : Edges) (L : Nat → Nat) (c : Bool), flags S (A ++ B) L c = flags S B (pass S A L) (flags S A L c)
  | [], _, _, _ => rfl
  | e :: A, B, L, c => by rw [List.cons_append, flags, flags_append S A B, flags, pass_cons]
theorem cell_bounds {w h x y : Nat} (hx : x < w) (hy : y < h) : y * w + x < w * h ∧ y * w + w ≤ w * h := by
  have : (y + 1) * w ≤ h * w := Nat.mul_le_mul_right _ hy
  rw [Nat.add_mul, Nat.one_mul, Nat.mul_comm h w] at this
  omega
theorem same_right {w h : Nat} (w1 : 1 ≤ w) (w4 : w ≤ 4) (h1 : 1 ≤ h) (h4 : h ≤ 4) {l2 l3 : List Int} (F : FigOK (w : Int) (h : Int) l2 l3) (n3 : l3.length ≤ 30) (k : Nat) (hk : 31 ≤ k) {x y : Nat} (hx : x + 1 < w) (hy : y < h) : spec_piSame.f k w h l2 l3 x y false = some (!((maskN w h l2 l3).testBit (w * (h + 1) + (y * (w + 1) + x + 1)))) := by
  have hb : y * (w + 1) ≤ 20 := Nat.le_trans (Nat.mul_le_mul (show y ≤ 4 by omega) (show w + 1 ≤ 5 by omega)) (by decide)
  unfold spec_piSame.f spec_fiHas.f spec_fiEdge.f
  rw [if_neg (by simp), if_pos rfl, w64 ((x : Int) + 1) (by omega) (by omega), w64 ((w : Int) + 1) (by omega) (by omega), w64 ((h : Int) - 1) (by omega) (by omega)]
  have e : (y : Int) * ((w : Int) + 1) = ((y * (w + 1) : Nat) : Int) := by push_cast; rfl
  rw [e, w64 ((y * (w + 1) : Nat) : Int) (by omega) (by omega), w64 _ (by omega) (by omega), spec_l1In_f, spec_l1In_f, Option.bind_some, if_pos (by simp; omega), Option.bind_some, Option.bind_some]
  simp only [if_true]
  rw [has_f _ _ (by omega) k (by omega), Option.bind_some, Option.bind_some]
  congr 2
  rw [Bool.eq_iff_iff, mask_high F]
  simp only [decide_eq_true_eq]
  rw [show ((y * (w + 1) : Nat) : Int) + ((x : Int) + 1) = ((y * (w + 1) + x + 1 : Nat) : Int) by omega]
theorem same_below {w h : Nat} (w1 : 1 ≤ w) (w4 : w ≤ 4) (h1 : 1 ≤ h) (h4 : h ≤ 4) {l2 l3 : List Int} (F : FigOK (w : Int) (h : Int) l2 l3) (n2 : l2.length ≤ 30) (k : Nat) (hk : 31 ≤ k) {x y : Nat} (hx : x < w) (hy : y + 1 < h) : spec_piSame.f k w h l2 l3 x y true = some (!((maskN w h l2 l3).testBit ((y + 1) * w + x))) := by
  have hb : (y + 1) * w ≤ 16 := Nat.le_trans (Nat.mul_le_mul (show y + 1 ≤ 4 by omega) w4) (by decide)
  unfold spec_piSame.f spec_fiHas.f spec_fiEdge.f
  rw [if_pos rfl, if_neg (by simp), w64 ((y : Int) + 1) (by omega) (by omega), w64 ((w : Int) - 1) (by omega) (by omega)]
  have e : ((y : Int) + 1) * (w : Int) = (((y + 1) * w : Nat) : Int) := by push_cast; rfl
  rw [e, w64 (((y + 1) * w : Nat) : Int) (by omega) (by omega), w64 _ (by omega) (by omega), spec_l1In_f, spec_l1In_f, Option.bind_some, if_pos (by simp; omega), Option.bind_some, Option.bind_some]
  simp only [Bool.false_eq_true, if_false]
  rw [has_f _ _ (by omega) k (by omega), Option.bind_some, Option.bind_some]
  congr 2
  have hlt : (y + 1) * w + x < w * (h + 1) := by
    have : (y + 1 + 1) * w ≤ h * w := Nat.mul_le_mul_right _ hy
    rw [Nat.add_mul (y + 1), Nat.one_mul, Nat.mul_comm h w] at this
    rw [Nat.mul_add, Nat.mul_one]
    omega
  rw [Bool.eq_iff_iff, mask_low F _ hlt]
  simp only [decide_eq_true_eq]
  rw [show (((y + 1) * w : Nat) : Int) + (x : Int) = (((y + 1) * w + x : Nat) : Int) by omega]
theorem grp_ne (a b : Nat) : ((a : Int) != (b : Int)) = decide (a ≠ b) := by
  rw [Bool.eq_iff_iff]
  simp only [bne_iff_ne, ne_eq, decide_eq_true_eq]
  omega
/-- the edge below a cell -/
def belowE (w h x y : Nat) : Edges := if y + 1 < h then [((y + 1) * w + x, y * w + x, y * w + x + w)] else []
def rightE (w h x y : Nat) : Edges := if x + 1 < w then [(w * (h + 1) + (y * (w + 1) + x + 1), y * w + x, y * w + x + 1)] else []
theorem least_f (a b : Nat) : spec_l1Least.f (a : Int) (b : Int) = some (mn (a : Int) (b : Int)) := by
  have hmn : ∀ x y : Int, mn x y = if y < x then y else x := fun _ _ => rfl
  unfold spec_l1Least.f
  rw [hmn]
  split <;> (split <;> first | rfl | (congr 1; omega))
theorem cell_split (w h x y : Nat) : cellEdges w h x y = rightE w h x y ++ belowE w h x y := rfl
section
variable {w h : Nat} (w1 : 1 ≤ w) (w4 : w ≤ 4) (h1 : 1 ≤ h) (h4 : h ≤ 4) {l2 l3 : List Int} (F : FigOK (w : Int) (h : Int) l2 l3) (n2 : l2.length ≤ 30) {P : Option (List Int) → Prop}
include w1 w4 h1 h4 F n2
theorem grp_j5 {x y : Nat} (hx : x < w) (hy : y < h) (k B : Nat) (x3 : List Int) (f : Nat → Nat) (c : Bool) (hL : LR x3 f (w * h)) (hB : 31 ≤ B)
    (hc : ∀ k' x3', B ≤ k' → LR x3' (pass (maskN w h l2 l3) (belowE w h x y) f) (w * h) → P (spec_piGroups.l3 k' x3' (flags (maskN w h l2 l3) (belowE w h x y) f c) (y : Int) ((x + 1 : Nat) : Int) w h l2 l3))
    (hk : B + 1 ≤ k) : P (spec_piGroups.j5 k x3 c (y : Int) (x : Int) ((y * w + x : Nat) : Int) w h l2 l3) := by
  obtain ⟨k, rfl⟩ : ∃ p, k = p + 1 := ⟨k - 1, by omega⟩
  have hn : w * h ≤ 16 := Nat.mul_le_mul w4 h4
  have hcb := cell_bounds hx hy
  have hxx : wrap64 ((x : Int) + 1) = ((x + 1 : Nat) : Int) := by rw [w64 _ (by omega) (by omega)]; omega
  have hyy : wrap64 ((y : Int) + 1) = ((y + 1 : Nat) : Int) := by rw [w64 _ (by omega) (by omega)]; omega
  have hlt1 := hcb.1
  simp only [spec_piGroups.j5]
  rw [hyy, hxx]
  clear hyy hxx
  unfold belowE at hc
  by_cases hb : y + 1 < h
  · rw [if_pos hb] at hc
    have hcb2 := cell_bounds hx hb
    have hlt2 : y * w + x + w < w * h := by rw [Nat.add_mul, Nat.one_mul] at hcb2; omega
    rw [if_pos (show ((y + 1 : Nat) : Int) < (h : Int) by omega), same_below w1 w4 h1 h4 F n2 k (by omega) hx hb, Option.bind_some]
    rw [pass_cons, pass_nil, flags, flags] at hc
    unfold parts step at hc
    simp only at hc
    generalize (maskN w h l2 l3).testBit ((y + 1) * w + x) = bt at *
    clear hcb hcb2
    generalize y * w + x = q0 at *
    generalize w * h = n0 at *
    have hw2 : wrap64 ((q0 : Int) + (w : Int)) = ((q0 + w : Nat) : Int) := by rw [w64 _ (by omega) (by omega)]; omega
    cases bt with
    | true =>
      simp only [Bool.not_true, Bool.false_eq_true, if_false]
      simp only [if_true, Bool.not_true, Bool.false_and, Bool.or_false] at hc
      exact hc k x3 (by omega) hL
    | false =>
      simp only [Bool.not_false, if_true]
      simp only [Bool.false_eq_true, if_false, Bool.not_false, Bool.true_and] at hc
      rw [hw2]
      clear hw2
      rw [if_pos (by omega), if_pos (by rw [hL.len]; omega), if_pos (by omega), if_pos (by rw [hL.len]; omega), hL.val _ (by omega), hL.val _ (by omega)]
      by_cases hq : f q0 = f (q0 + w)
      · rw [if_pos (by rw [hq])]
        have hd : (decide (f q0 ≠ f (q0 + w))) = false := by simp [hq]
        rw [hd, Bool.or_false, meet_same hq] at hc
        exact hc k x3 (by omega) hL
      · rw [if_neg (by omega), least_f, Option.bind_some, Int.toNat_natCast, Int.toNat_natCast]
        have hd : (decide (f q0 ≠ f (q0 + w))) = true := by simp [hq]
        rw [hd, Bool.or_true] at hc
        exact hc k _ (by omega) (hL.put2 (by omega) (by omega) (by rw [hL.val _ (by omega), hL.val _ (by omega)]))
  · rw [if_neg hb] at hc
    rw [if_neg (by omega)]
    exact hc k x3 (by omega) hL
theorem grp_j4 {x y : Nat} (hx : x < w) (hy : y < h) (k B : Nat) (x3 : List Int) (f : Nat → Nat) (c b : Bool) (hL : LR x3 f (w * h)) (hB : 31 ≤ B)
    (hb : b = true → y * w + x + 1 < w * h)
    (hc : ∀ k' x3', B ≤ k' → LR x3' (pass (maskN w h l2 l3) (belowE w h x y) (if b = true then meet f (y * w + x) (y * w + x + 1) else f)) (w * h) → P (spec_piGroups.l3 k' x3' (flags (maskN w h l2 l3) (belowE w h x y) (if b = true then meet f (y * w + x) (y * w + x + 1) else f) (c || b)) (y : Int) ((x + 1 : Nat) : Int) w h l2 l3))
    (hk : B + 2 ≤ k) : P (spec_piGroups.j4 k x3 c (y : Int) (x : Int) ((y * w + x : Nat) : Int) b w h l2 l3) := by
  obtain ⟨k, rfl⟩ : ∃ p, k = p + 1 := ⟨k - 1, by omega⟩
  have hn : w * h ≤ 16 := Nat.mul_le_mul w4 h4
  have hcb := (cell_bounds hx hy).1
  cases b with
  | false =>
    simp only [spec_piGroups.j4]
    rw [if_neg (by simp)]
    simp only [Bool.false_eq_true, if_false, Bool.or_false] at hc
    exact grp_j5 w1 w4 h1 h4 F n2 hx hy k B x3 f c hL hB hc (by omega)
  | true =>
    have hb := hb rfl
    simp only [if_true, Bool.or_true] at hc
    have hJ := fun x3' hL' => grp_j5 w1 w4 h1 h4 F n2 hx hy k B x3' _ true hL' hB hc (by omega)
    clear hc
    simp only [spec_piGroups.j4]
    generalize y * w + x = q0 at *
    generalize w * h = n0 at *
    have hw2 : wrap64 ((q0 : Int) + 1) = ((q0 + 1 : Nat) : Int) := by rw [w64 _ (by omega) (by omega)]; omega
    rw [if_pos trivial, hw2]
    clear hw2
    rw [if_pos (by omega), if_pos (by rw [hL.len]; omega), if_pos (by omega), if_pos (by rw [hL.len]; omega), hL.val _ (by omega), hL.val _ (by omega), least_f, Option.bind_some, Int.toNat_natCast, Int.toNat_natCast]
    exact hJ _ (hL.put2 (by omega) (by omega) (by rw [hL.val _ (by omega), hL.val _ (by omega)]))
end
section
variable {w h : Nat} (w1 : 1 ≤ w) (w4 : w ≤ 4) (h1 : 1 ≤ h) (h4 : h ≤ 4) {l2 l3 : List Int} (F : FigOK (w : Int) (h : Int) l2 l3) (n2 : l2.length ≤ 30) (n3 : l3.length ≤ 30) {P : Option (List Int) → Prop}
include w1 w4 h1 h4 F n2 n3
theorem grp_l3 {y : Nat} (hy : y < h) : ∀ (d x k B : Nat) (x3 : List Int) (f : Nat → Nat) (c : Bool), x + d = w → LR x3 f (w * h) → 31 ≤ B →
    (∀ k' x3', B ≤ k' → LR x3' (pass (maskN w h l2 l3) (rowEdges w h y x d) f) (w * h) → P (spec_piGroups.l2 k' x3' (flags (maskN w h l2 l3) (rowEdges w h y x d) f c) ((y + 1 : Nat) : Int) w h l2 l3)) →
    B + 3 * d + 1 ≤ k → P (spec_piGroups.l3 k x3 c (y : Int) (x : Int) w h l2 l3) := by
  intro d
  induction d with
  | zero =>
    intro x k B x3 f c hx hL hB hc hk
    obtain ⟨k, rfl⟩ : ∃ p, k = p + 1 := ⟨k - 1, by omega⟩
    simp only [spec_piGroups.l3]
    have hyy : wrap64 ((y : Int) + 1) = ((y + 1 : Nat) : Int) := by rw [w64 _ (by omega) (by omega)]; omega
    rw [if_neg (by omega), hyy]
    exact hc k x3 (by omega) hL
  | succ d ih =>
    intro x k B x3 f c hx hL hB hc hk
    obtain ⟨k, rfl⟩ : ∃ p, k = p + 1 := ⟨k - 1, by omega⟩
    have hn : w * h ≤ 16 := Nat.mul_le_mul w4 h4
    have hxw : x < w := by omega
    have hcb := cell_bounds hxw hy
    have hcb2 := hcb.2
    have hcb1 := hcb.1
    have hyw : y * w ≤ 16 := by omega
    -- what is left to do behind the edge to the right
    have go : ∀ (b : Bool), (b = true → y * w + x + 1 < w * h) → pass (maskN w h l2 l3) (rightE w h x y) f = (if b = true then meet f (y * w + x) (y * w + x + 1) else f) → flags (maskN w h l2 l3) (rightE w h x y) f c = (c || b) → P (spec_piGroups.j4 k x3 c (y : Int) (x : Int) ((y * w + x : Nat) : Int) b w h l2 l3) := by
      intro b hb hp hf
      refine grp_j4 w1 w4 h1 h4 F n2 hxw hy k (B + 3 * d + 1) x3 f c b hL (by omega) hb (fun k' x3' hk' hL' => ?_) (by omega)
      refine ih (x + 1) k' B x3' _ _ (by omega) hL' hB (fun k'' x3'' hk'' hL'' => ?_) hk'
      have := hc k'' x3'' hk''
      rw [rowEdges, cell_split, List.append_assoc, pass_append, pass_append, flags_append, flags_append, hp, hf] at this
      exact this hL''
    clear hc ih
    simp only [spec_piGroups.l3]
    have e0 : wrap64 ((wrap64 ((y : Int) * (w : Int))) + (x : Int)) = ((y * w + x : Nat) : Int) := by
      rw [show (y : Int) * (w : Int) = ((y * w : Nat) : Int) by push_cast; rfl, w64 ((y * w : Nat) : Int) (by omega) (by omega), w64 _ (by omega) (by omega)]
      omega
    rw [e0]
    clear e0
    have e1 : wrap64 ((x : Int) + 1) = ((x + 1 : Nat) : Int) := by rw [w64 _ (by omega) (by omega)]; omega
    rw [e1]
    clear e1
    rw [if_pos (by omega)]
    unfold rightE at go
    by_cases hr : x + 1 < w
    · rw [if_pos hr, pass_cons, pass_nil, flags, flags] at go
      unfold parts step at go
      simp only at go
      have hlt : y * w + x + 1 < w * h := by omega
      rw [if_pos (by omega), same_right w1 w4 h1 h4 F n3 k (by omega) hr hy, Option.bind_some]
      generalize (maskN w h l2 l3).testBit (w * (h + 1) + (y * (w + 1) + x + 1)) = bt at *
      clear hcb
      generalize y * w + x = q0 at *
      generalize w * h = n0 at *
      have hw2 : wrap64 ((q0 : Int) + 1) = ((q0 + 1 : Nat) : Int) := by rw [w64 _ (by omega) (by omega)]; omega
      cases bt with
      | true =>
        rw [if_neg (by simp)]
        exact go false (by simp) (by simp) (by simp)
      | false =>
        rw [if_pos (by simp), hw2]
        clear hw2
        rw [if_pos (by omega), if_pos (by rw [hL.len]; omega), if_pos (by omega), if_pos (by rw [hL.len]; omega), hL.val _ (by omega), hL.val _ (by omega), grp_ne]
        refine go _ (fun _ => hlt) ?_ (by simp)
        by_cases hq : f q0 = f (q0 + 1)
        · simp [hq, meet_same hq]
        · simp [hq]
    · rw [if_neg hr] at go
      rw [if_neg (by omega)]
      exact go false (by simp) (by simp [pass_nil]) (by simp [flags])
theorem grp_l2 : ∀ (d y k B : Nat) (x3 : List Int) (f : Nat → Nat) (c : Bool), y + d = h → LR x3 f (w * h) → 31 ≤ B →
    (∀ k' x3', B ≤ k' → LR x3' (pass (maskN w h l2 l3) (refEdges w h y d) f) (w * h) → P (spec_piGroups.l1 k' x3' (flags (maskN w h l2 l3) (refEdges w h y d) f c) w h l2 l3)) →
    B + 20 * d + 1 ≤ k → P (spec_piGroups.l2 k x3 c (y : Int) w h l2 l3) := by
  intro d
  induction d with
  | zero =>
    intro y k B x3 f c hy hL hB hc hk
    obtain ⟨k, rfl⟩ : ∃ p, k = p + 1 := ⟨k - 1, by omega⟩
    simp only [spec_piGroups.l2]
    rw [if_neg (by omega)]
    exact hc k x3 (by omega) hL
  | succ d ih =>
    intro y k B x3 f c hy hL hB hc hk
    obtain ⟨k, rfl⟩ : ∃ p, k = p + 1 := ⟨k - 1, by omega⟩
    simp only [spec_piGroups.l2]
    rw [if_pos (by omega)]
    refine grp_l3 w1 w4 h1 h4 F n2 n3 (by omega) w 0 k (B + 20 * d + 1) x3 f c (by omega) hL (by omega) (fun k' x3' hk' hL' => ?_) (by omega)
    refine ih (y + 1) k' B x3' _ _ (by omega) hL' hB (fun k'' x3'' hk'' hL'' => ?_) hk'
    have := hc k'' x3'' hk''
    rw [refEdges, pass_append, flags_append] at this
    exact this hL''
theorem grp_l1 : ∀ (d t k : Nat) (x3 : List Int), t + d = w * h → LR x3 (passes (maskN w h l2 l3) (refEdges w h 0 h) t fun a => a) (w * h) → 200 * (d + 2) ≤ k →
    ∃ x, spec_piGroups.l1 k x3 true w h l2 l3 = some x ∧ LR x (fin (Open (maskN w h l2 l3) (refEdges w h 0 h))) (w * h) := by
  have hE := edges_ok w1 w4 h1 h4
  have hT : ∀ k a b, (k, a, b) ∈ refEdges w h 0 h → a < w * h ∧ b < w * h := fun k a b hm => (hE.2.2 _ (hE.2.1 _ hm)).2
  have hLab : ∀ t, Lab (Open (maskN w h l2 l3) (refEdges w h 0 h)) (passes (maskN w h l2 l3) (refEdges w h 0 h) t fun a => a) := by
    intro t
    induction t with
    | zero => exact lab_id _
    | succ t ih => rw [passes_succ]; exact pass_lab _ _ _ (fun _ _ h => h) ih
  -- a pass that changes nothing is the last one
  have quiet : ∀ (t k : Nat) (x3 : List Int), 200 ≤ k → LR x3 (passes (maskN w h l2 l3) (refEdges w h 0 h) t fun a => a) (w * h) → flags (maskN w h l2 l3) (refEdges w h 0 h) (passes (maskN w h l2 l3) (refEdges w h 0 h) t fun a => a) false = false →
      ∃ x, spec_piGroups.l2 k x3 false ((0 : Nat) : Int) w h l2 l3 = some x ∧ LR x (fin (Open (maskN w h l2 l3) (refEdges w h 0 h))) (w * h) := by
    intro t k x3 hk hL hf
    have hq := flags_false _ _ _ hf
    refine grp_l2 w1 w4 h1 h4 F n2 n3 (P := fun o => ∃ x, o = some x ∧ LR x (fin (Open (maskN w h l2 l3) (refEdges w h 0 h))) (w * h)) h 0 k 31 x3 _ false (by omega) hL (by omega) (fun k' x3' hk' hL' => ?_) (by omega)
    obtain ⟨k', rfl⟩ : ∃ p, k' = p + 1 := ⟨k' - 1, by omega⟩
    rw [hf]
    simp only [spec_piGroups.l1]
    rw [if_neg (by simp)]
    rw [hq.1, fix_labels (hLab t) hq.2] at hL'
    exact ⟨x3', rfl, hL'⟩
  intro d
  induction d with
  | zero =>
    intro t k x3 ht hL hk
    obtain ⟨k, rfl⟩ : ∃ p, k = p + 1 := ⟨k - 1, by omega⟩
    simp only [spec_piGroups.l1]
    rw [if_pos trivial]
    exact quiet t k x3 (by omega) hL (flags_done (maskN w h l2 l3) (refEdges w h 0 h) (w * h) hT t (by omega))
  | succ d ih =>
    intro t k x3 ht hL hk
    cases hf : flags (maskN w h l2 l3) (refEdges w h 0 h) (passes (maskN w h l2 l3) (refEdges w h 0 h) t fun a => a) false with
    | false =>
      obtain ⟨k, rfl⟩ : ∃ p, k = p + 1 := ⟨k - 1, by omega⟩
      simp only [spec_piGroups.l1]
      rw [if_pos trivial]
      exact quiet t k x3 (by omega) hL hf
    | true =>
      obtain ⟨k, rfl⟩ : ∃ p, k = p + 1 := ⟨k - 1, by omega⟩
      simp only [spec_piGroups.l1]
      rw [if_pos trivial]
      refine grp_l2 w1 w4 h1 h4 F n2 n3 (P := fun o => ∃ x, o = some x ∧ LR x (fin (Open (maskN w h l2 l3) (refEdges w h 0 h))) (w * h)) h 0 k (200 * (d + 2)) x3 _ false (by omega) hL (by omega) (fun k' x3' hk' hL' => ?_) (by omega)
      rw [hf]
      rw [← passes_succ] at hL'
      exact ih (t + 1) k' x3' (by omega) hL' hk'
theorem grp_l0 : ∀ (d i k : Nat) (x3 : List Int), i + d = w * h → x3.length = w * h → (∀ j, j < i → rd x3 (j : Int) = (j : Int)) → 4000 + d ≤ k →
    ∃ x, spec_piGroups.l0 k x3 ((w * h : Nat) : Int) (i : Int) w h l2 l3 = some x ∧ LR x (fin (Open (maskN w h l2 l3) (refEdges w h 0 h))) (w * h) := by
  have hn : w * h ≤ 16 := Nat.mul_le_mul w4 h4
  intro d
  induction d with
  | zero =>
    intro i k x3 hi hx hv hk
    obtain ⟨k, rfl⟩ : ∃ p, k = p + 1 := ⟨k - 1, by omega⟩
    simp only [spec_piGroups.l0]
    rw [if_neg (by omega)]
    exact grp_l1 w1 w4 h1 h4 F n2 n3 (w * h) 0 k x3 (by omega) ⟨hx, fun j hj => hv j (by omega)⟩ (by omega)
  | succ d ih =>
    intro i k x3 hi hx hv hk
    obtain ⟨k, rfl⟩ : ∃ p, k = p + 1 := ⟨k - 1, by omega⟩
    simp only [spec_piGroups.l0]
    have e1 : wrap64 ((i : Int) + 1) = ((i + 1 : Nat) : Int) := by rw [w64 _ (by omega) (by omega)]; omega
    rw [if_pos (by omega), if_pos (by omega), if_pos (by omega), e1, Int.toNat_natCast]
    clear e1
    refine ih (i + 1) k _ (by omega) (by simpa using hx) (fun j hj => ?_) (by omega)
    rw [rd_put _ _ _ _ (by omega)]
    by_cases q : i = j
    · rw [if_pos q, q]
    · rw [if_neg q, hv j (by omega)]
theorem groups_f (k : Nat) (hk : 4100 ≤ k) : ∃ x, spec_piGroups.f k w h l2 l3 = some x ∧ LR x (fin (Open (maskN w h l2 l3) (refEdges w h 0 h))) (w * h) := by
  have hn : w * h ≤ 16 := Nat.mul_le_mul w4 h4
  unfold spec_piGroups.f
  have e : wrap64 ((w : Int) * h) = ((w * h : Nat) : Int) := by rw [show ((w : Int) * h) = ((w * h : Nat) : Int) by push_cast; rfl, w64 _ (by omega) (by omega)]
  rw [e]
  clear e
  rw [if_pos (by omega), Int.toNat_natCast, if_pos (by omega), Option.bind_some, List.length_replicate]
  exact grp_l0 w1 w4 h1 h4 F n2 n3 (w * h) 0 k _ (by omega) (by simp) (fun j hj => by omega) (by omega)
end

/-! The numbers of the bits that are set, in order. -/
/-- the bits of m below n -/
def bitsOf (n m : Nat) : List Int := ((List.range n).filter m.testBit).map fun j : Nat => (j : Int)
theorem mem_bitsOf {n m : Nat} {x : Int} : x ∈ bitsOf n m ↔ ∃ j : Nat, x = (j : Int) ∧ j < n ∧ m.testBit j = true := by
  unfold bitsOf
  simp only [List.mem_map, List.mem_filter, List.mem_range]
  constructor
  · rintro ⟨j, ⟨h1, h2⟩, rfl⟩; exact ⟨j, rfl, h1, h2⟩
  · rintro ⟨j, rfl, h1, h2⟩; exact ⟨j, ⟨h1, h2⟩, rfl⟩
theorem bitsOf_pairwise (n m : Nat) : (bitsOf n m).Pairwise (· < ·) := by
  unfold bitsOf
  rw [List.pairwise_map]
  exact (List.Pairwise.sublist List.filter_sublist List.pairwise_lt_range).imp (fun h => by exact_mod_cast h)
/-- two rising lists with the same elements are one -/
theorem rising_ext : ∀ {a b : List Int}, a.Pairwise (· < ·) → b.Pairwise (· < ·) → (∀ x, x ∈ a ↔ x ∈ b) → a = b
  | [], [], _, _, _ => rfl
  | [], y :: b, _, _, h => by have := (h y).2 (by simp); simp at this
  | x :: a, [], _, _, h => by have := (h x).1 (by simp); simp at this
  | x :: a, y :: b, ha, hb, h => by
    rw [List.pairwise_cons] at ha hb
    have hxy : x = y := by
      have h1 := (h x).1 (by simp)
      have h2 := (h y).2 (by simp)
      simp only [List.mem_cons] at h1 h2
      rcases h1 with h1 | h1
      · exact h1
      · rcases h2 with h2 | h2
        · exact h2.symm
        · have := hb.1 _ h1; have := ha.1 _ h2; omega
    subst hxy
    congr 1
    refine rising_ext ha.2 hb.2 (fun z => ?_)
    have := h z
    simp only [List.mem_cons] at this
    constructor
    · intro hz
      rcases this.1 (.inr hz) with rfl | h1
      · exact absurd (ha.1 _ hz) (by omega)
      · exact h1
    · intro hz
      rcases this.2 (.inr hz) with rfl | h1
      · exact absurd (hb.1 _ hz) (by omega)
      · exact h1

/-! The places of a set's bits. -/
theorem pow62 {x : Nat} (h : x < 62) : 2 ^ x < 4611686018427387904 := Nat.lt_of_lt_of_le (Nat.pow_lt_pow_right (by decide) h) (by decide)
theorem i64_wr : ∀ n : Int, 0 ≤ n → n < 2 ^ 63 → IntKind.i64.wrap n = n := fun n h0 h1 => by rw [IntKind.wrap_i64]; omega
theorem i64_and_nat {a b : Nat} (ha : a < 4611686018427387904) (hb : b < 4611686018427387904) : Go.bits .and .i64 (a : Int) (b : Int) = ((a &&& b : Nat) : Int) :=
  (bits_nat .i64 63 (by decide) i64_wr a b (by omega) (by omega)).1
theorem i64_or_nat {a b : Nat} (ha : a < 4611686018427387904) (hb : b < 4611686018427387904) : Go.bits .or .i64 (a : Int) (b : Int) = ((a ||| b : Nat) : Int) :=
  (bits_nat .i64 63 (by decide) i64_wr a b (by omega) (by omega)).2
theorem shl_i64 (x : Nat) (h : x < 62) : shl .i64 1 (x : Int) = ((2 ^ x : Nat) : Int) := by
  unfold shl
  have e : min (x : Int).toNat (IntKind.i64.bits) = x := by rw [Int.toNat_natCast]; exact Nat.min_eq_left (by show x ≤ 64; omega)
  have := pow62 h
  have e2 : ((2 : Int) ^ x) = ((2 ^ x : Nat) : Int) := by push_cast; rfl
  rw [e, Int.one_mul, e2]
  exact i64_wr _ (Int.natCast_nonneg _) (Int.lt_trans (Int.ofNat_lt.mpr this) (by decide))
theorem and_bit (m j : Nat) (hm : m < 4611686018427387904) (hj : j < 62) : (Go.bits .and .i64 (m : Int) ((2 ^ j : Nat) : Int) = 0) ↔ m.testBit j = false := by
  rw [i64_and_nat hm (pow62 hj), Int.natCast_eq_zero]
  constructor
  · intro e
    have h := congrArg (fun z => Nat.testBit z j) e
    simpa [Nat.testBit_and, Nat.testBit_two_pow] using h
  · intro hb
    apply Nat.eq_of_testBit_eq
    intro i
    rw [Nat.testBit_and, Nat.testBit_two_pow, Nat.zero_testBit]
    by_cases q : j = i
    · subst q; simp [hb]
    · simp [q]
/-- the places from i on whose bits are set -/
def segFrom (off m i d : Nat) : List Int := ((List.range' i d).filter fun j => m.testBit (off + j)).map fun j : Nat => (j : Int)
theorem segFrom_zero (off m i : Nat) : segFrom off m i 0 = [] := rfl
theorem segFrom_succ (off m i d : Nat) : segFrom off m i (d + 1) = if m.testBit (off + i) = true then (i : Int) :: segFrom off m (i + 1) d else segFrom off m (i + 1) d := by
  unfold segFrom
  rw [List.range'_succ, List.filter_cons]
  split <;> rfl
theorem segFrom_length (off m i d : Nat) : (segFrom off m i d).length ≤ d := by
  unfold segFrom
  rw [List.length_map]
  exact Nat.le_trans (List.length_filter_le _ _) (by simp)
theorem mem_seg {off m i d : Nat} {x : Int} : x ∈ segFrom off m i d ↔ ∃ j : Nat, x = (j : Int) ∧ i ≤ j ∧ j < i + d ∧ m.testBit (off + j) = true := by
  unfold segFrom
  simp only [List.mem_map, List.mem_filter, List.mem_range'_1]
  constructor
  · rintro ⟨j, ⟨⟨h1, h2⟩, h3⟩, rfl⟩; exact ⟨j, rfl, h1, h2, h3⟩
  · rintro ⟨j, rfl, h1, h2, h3⟩; exact ⟨j, ⟨⟨h1, h2⟩, h3⟩, rfl⟩
theorem seg_pairwise (off m i d : Nat) : (segFrom off m i d).Pairwise (· < ·) := by
  unfold segFrom
  rw [List.pairwise_map]
  refine (List.Pairwise.filter _ (List.pairwise_lt_range' (s := i) (n := d))).imp ?_
  intro a b h
  exact Int.ofNat_lt.mpr h

/-! A figure's bits laid out again. -/
theorem FigOK.small {w h : Int} {l2 l3 : List Int} (F : FigOK w h l2 l3) : (∀ x ∈ l2, 0 ≤ x ∧ x ≤ 20) ∧ (∀ x ∈ l3, 0 ≤ x ∧ x ≤ 20) ∧ l2.length ≤ 20 ∧ l3.length ≤ 20 := by
  obtain ⟨a, b, c, d, _, _⟩ := F.nums
  refine ⟨fun x hx => ?_, fun x hx => ?_, ?_, ?_⟩
  · have := F.in2 x hx; omega
  · have := F.in3 x hx; omega
  · have := rise_length F.r2 F.in2 (by omega); omega
  · have := rise_length F.r3 F.in3 (by omega); omega
/-- a figure's grid in numbers -/
theorem FigOK.grid {w h : Int} {l2 l3 : List Int} (F : FigOK w h l2 l3) : ∃ wn hn : Nat, w = (wn : Int) ∧ h = (hn : Int) ∧ 1 ≤ wn ∧ wn ≤ 4 ∧ 1 ≤ hn ∧ hn ≤ 4 :=
  ⟨w.toNat, h.toNat, by have := F.w1; omega, by have := F.h1; omega, by have := F.w1; omega, by have := F.w4; omega, by have := F.h1; omega, by have := F.h4; omega⟩
theorem acc_below {base : Int} {B : Nat} : ∀ (l : List Int) (m : Nat), (∀ x ∈ l, 0 ≤ base + x ∧ base + x < B) → m < 2 ^ B → acc base l m < 2 ^ B
  | [], m, _, hm => hm
  | x :: l, m, hl, hm => by
    have hx := hl x List.mem_cons_self
    exact acc_below l _ (fun y hy => hl y (List.mem_cons_of_mem _ hy)) (Nat.or_lt_two_pow hm (Nat.pow_lt_pow_right (by decide) (by omega)))
section
variable {w h : Nat} (w1 : 1 ≤ w) (w4 : w ≤ 4) (h1 : 1 ≤ h) (h4 : h ≤ 4)
include w1 w4 h1 h4
theorem nums_nat : w * (h + 1) ≤ 20 ∧ h * (w + 1) ≤ 20 ∧ 2 ≤ w * (h + 1) ∧ 2 ≤ h * (w + 1) ∧ wrap64 ((w : Int) * wrap64 ((h : Int) + 1)) = ((w * (h + 1) : Nat) : Int) ∧ wrap64 (wrap64 ((w : Int) + 1) * (h : Int)) = ((h * (w + 1) : Nat) : Int) := by
  obtain ⟨e1, e2, e3, _⟩ := grid_mul (w := (w : Int)) (h := (h : Int)) (by omega) (by omega) (by omega) (by omega)
  obtain ⟨m1, m2, m3, m4, _⟩ := mul_bounds (w := (w : Int)) (h := (h : Int)) (by omega) (by omega) (by omega) (by omega)
  have c1 : (w : Int) * ((h : Int) + 1) = ((w * (h + 1) : Nat) : Int) := by push_cast; rfl
  have c2 : (h : Int) * ((w : Int) + 1) = ((h * (w + 1) : Nat) : Int) := by push_cast; rfl
  rw [e1, e3, c1, c2]
  rw [c1] at m1 m2
  rw [c2] at m3 m4
  exact ⟨by omega, by omega, by omega, by omega, rfl, rfl⟩
theorem mask_small {l2 l3 : List Int} (F : FigOK (w : Int) (h : Int) l2 l3) : maskN w h l2 l3 < 2 ^ (w * (h + 1) + h * (w + 1)) := by
  obtain ⟨b1, b2, b3, b4, _⟩ := nums_nat w1 w4 h1 h4
  have c1 : (w : Int) * ((h : Int) + 1) = ((w * (h + 1) : Nat) : Int) := by push_cast; rfl
  have c2 : (h : Int) * ((w : Int) + 1) = ((h * (w + 1) : Nat) : Int) := by push_cast; rfl
  unfold maskN
  rw [c1]
  refine acc_below _ _ (fun x hx => ?_) (acc_below _ _ (fun x hx => ?_) (Nat.two_pow_pos _))
  · have := F.in3 x hx; rw [c2] at this; omega
  · have := F.in2 x hx; rw [c1] at this; omega
theorem mask_62 {l2 l3 : List Int} (F : FigOK (w : Int) (h : Int) l2 l3) : maskN w h l2 l3 < 4611686018427387904 := by
  obtain ⟨b1, b2, b3, b4, _⟩ := nums_nat w1 w4 h1 h4
  exact Nat.lt_trans (mask_small w1 w4 h1 h4 F) (pow62 (by omega))
/-- the figure of a set is a figure, and its bits are the set's -/
theorem seg_fig (m : Nat) : FigOK (w : Int) (h : Int) (segFrom 0 m 0 (w * (h + 1))) (segFrom (w * (h + 1)) m 0 (h * (w + 1))) := by
  have c1 : (w : Int) * ((h : Int) + 1) = ((w * (h + 1) : Nat) : Int) := by push_cast; rfl
  have c2 : (h : Int) * ((w : Int) + 1) = ((h * (w + 1) : Nat) : Int) := by push_cast; rfl
  refine ⟨by omega, by omega, by omega, by omega, pairwise_rise (seg_pairwise _ _ _ _), pairwise_rise (seg_pairwise _ _ _ _), fun x hx => ?_, fun x hx => ?_⟩
  · obtain ⟨j, rfl, _, q, _⟩ := mem_seg.1 hx; rw [c1]; omega
  · obtain ⟨j, rfl, _, q, _⟩ := mem_seg.1 hx; rw [c2]; omega
theorem seg_mask (m : Nat) (hm : m < 2 ^ (w * (h + 1) + h * (w + 1))) : maskN w h (segFrom 0 m 0 (w * (h + 1))) (segFrom (w * (h + 1)) m 0 (h * (w + 1))) = m := by
  have F := seg_fig w1 w4 h1 h4 m
  apply Nat.eq_of_testBit_eq
  intro j
  rw [Bool.eq_iff_iff]
  by_cases q : j < w * (h + 1)
  · rw [mask_low F j q, mem_seg]
    constructor
    · rintro ⟨i, e, _, _, hb⟩
      obtain rfl : j = i := by omega
      rwa [Nat.zero_add] at hb
    · intro hb; exact ⟨j, rfl, Nat.zero_le _, by omega, by rwa [Nat.zero_add]⟩
  · obtain ⟨i, rfl⟩ : ∃ i, j = w * (h + 1) + i := ⟨j - w * (h + 1), by omega⟩
    rw [mask_high F i, mem_seg]
    constructor
    · rintro ⟨i', e, _, _, hb⟩
      obtain rfl : i = i' := by omega
      exact hb
    · intro hb
      refine ⟨i, rfl, Nat.zero_le _, ?_, hb⟩
      refine Classical.byContradiction fun hq => ?_
      rw [Nat.testBit_lt_two_pow (Nat.lt_of_lt_of_le hm (Nat.pow_le_pow_right (by decide) (by omega)))] at hb
      cases hb
end
/-- a figure is the figure of its bits -/
theorem mask_seg {w h : Nat} {l2 l3 : List Int} (F : FigOK (w : Int) (h : Int) l2 l3) : segFrom 0 (maskN w h l2 l3) 0 (w * (h + 1)) = l2 ∧ segFrom (w * (h + 1)) (maskN w h l2 l3) 0 (h * (w + 1)) = l3 := by
  have c1 : (w : Int) * ((h : Int) + 1) = ((w * (h + 1) : Nat) : Int) := by push_cast; rfl
  have c2 : (h : Int) * ((w : Int) + 1) = ((h * (w + 1) : Nat) : Int) := by push_cast; rfl
  constructor
  · refine rising_ext (seg_pairwise _ _ _ _) (rise_pairwise F.r2) (fun x => ?_)
    rw [mem_seg]
    constructor
    · rintro ⟨j, rfl, _, q, hb⟩
      rw [Nat.zero_add] at hb q
      exact (mask_low F j q).1 hb
    · intro hx
      have := F.in2 x hx
      rw [c1] at this
      obtain ⟨j, rfl⟩ := Int.eq_ofNat_of_zero_le this.1
      exact ⟨j, rfl, Nat.zero_le _, by omega, by rw [Nat.zero_add]; exact (mask_low F j (by omega)).2 hx⟩
  · refine rising_ext (seg_pairwise _ _ _ _) (rise_pairwise F.r3) (fun x => ?_)
    rw [mem_seg]
    constructor
    · rintro ⟨j, rfl, _, q, hb⟩
      exact (mask_high F j).1 hb
    · intro hx
      have := F.in3 x hx
      rw [c2] at this
      obtain ⟨j, rfl⟩ := Int.eq_ofNat_of_zero_le this.1
      exact ⟨j, rfl, Nat.zero_le _, by omega, (mask_high F j).2 hx⟩

theorem pieces_mem {f : Nat → Nat} {n : Nat} {c : List Int} : ∀ (d i : Nat), c ∈ piecesFrom f n i d ↔ ∃ a, i ≤ a ∧ a < i + d ∧ ownFrom f a 0 n ≠ [] ∧ c = ownFrom f a 0 n
  | 0, i => ⟨fun h => (by cases h), fun ⟨a, h1, h2, _⟩ => by omega⟩
  | d + 1, i => by
    rw [piecesFrom, List.mem_append, pieces_mem d (i + 1)]
    constructor
    · rintro (q | ⟨a, q1, q2, q3⟩)
      · by_cases e : ownFrom f i 0 n = []
        · rw [if_pos e] at q; cases q
        · rw [if_neg e] at q
          exact ⟨i, Nat.le_refl _, by omega, e, by simpa using q⟩
      · exact ⟨a, by omega, by omega, q3⟩
    · rintro ⟨a, q1, q2, q3, q4⟩
      by_cases e : a = i
      · subst e; left; rw [if_neg q3]; simpa using q4
      · exact .inr ⟨a, by omega, by omega, q3, q4⟩

/-! The pieces of both. -/
/-- the pieces by their first cells -/
def firstsFrom (f : Nat → Nat) (n : Nat) : Nat → Nat → List (List Int)
  | _, 0 => []
  | c, d + 1 => (if f c = c then [ownFrom f c 0 n] else []) ++ firstsFrom f n (c + 1) d
theorem firsts_pieces {f : Nat → Nat} {n : Nat} (hid : ∀ a, f (f a) = f a) : ∀ (d c : Nat), c + d = n → firstsFrom f n c d = piecesFrom f n c d
  | 0, _, _ => rfl
  | d + 1, c, hc => by
    rw [firstsFrom, piecesFrom, firsts_pieces hid d (c + 1) (by omega)]
    congr 1
    by_cases q : f c = c
    · rw [if_pos q, if_neg]
      intro h
      have : (c : Int) ∈ ownFrom f c 0 n := mem_own.2 ⟨c, rfl, Nat.zero_le _, by omega, q⟩
      rw [h] at this; cases this
    · rw [if_neg q, if_pos]
      refine List.eq_nil_iff_forall_not_mem.2 fun x hx => ?_
      obtain ⟨j, _, _, _, h4⟩ := mem_own.1 hx
      exact q (by rw [← h4]; exact hid j)
theorem LR.own_eq {x : List Int} {f : Nat → Nat} {n : Nat} (h : LR x f n) : True := trivial
theorem pie_l1 (n : Nat) (hn : n ≤ 16) (f : Nat → Nat) (x3 : List Int) (hx : LR x3 f n) {P : Option (List (List Int)) → Prop} (c : Nat) (x4 : List (List Int)) (h4 : x4.length ≤ 100) : ∀ (d j k B : Nat) (x7 : List Int), j + d = n → x7.length + d ≤ 100 → B + d + 1 ≤ k →
    (∀ k', B ≤ k' → P (spec_piPieces.l0 k' x3 (x4 ++ [x7 ++ ownFrom f c j d]) x3 (n : Int) (wrap64 ((c : Int) + 1)))) →
    P (spec_piPieces.l1 k x3 x4 (c : Int) x7 x3 (n : Int) (c : Int) x3 (n : Int) (j : Int)) := by
  intro d
  induction d with
  | zero =>
    intro j k B x7 hj hl hk hc
    obtain ⟨k, rfl⟩ : ∃ p, k = p + 1 := ⟨k - 1, by omega⟩
    simp only [spec_piPieces.l1]
    rw [if_neg (by omega), if_pos (by omega)]
    have := hc k (by omega)
    rw [ownFrom_zero, List.append_nil] at this
    exact this
  | succ d ih =>
    intro j k B x7 hj hl hk hc
    obtain ⟨k, rfl⟩ : ∃ p, k = p + 1 := ⟨k - 1, by omega⟩
    simp only [spec_piPieces.l1]
    rw [if_pos (by omega), if_pos (by omega), if_pos (by rw [hx.len]; omega), hx.val j (by omega), w64 ((j : Int) + 1) (by omega) (by omega), show ((j : Int) + 1) = ((j + 1 : Nat) : Int) by omega]
    rw [ownFrom_succ] at hc
    by_cases hq : f j = c
    · rw [if_pos hq] at hc
      rw [if_pos (by rw [hq]), if_pos (by omega)]
      refine ih (j + 1) k B (x7 ++ [(j : Int)]) (by omega) (by simp; omega) (by omega) (fun k' hk' => ?_)
      have := hc k' hk'
      rw [show x7 ++ [(j : Int)] ++ ownFrom f c (j + 1) d = x7 ++ (j : Int) :: ownFrom f c (j + 1) d by simp]
      exact this
    · rw [if_neg hq] at hc
      rw [if_neg (by omega)]
      exact ih (j + 1) k B x7 (by omega) (by omega) (by omega) hc
theorem pie_l0 (n : Nat) (hn : n ≤ 16) (f : Nat → Nat) (x3 : List Int) (hx : LR x3 f n) : ∀ (d c k : Nat) (x4 : List (List Int)), c + d = n → x4.length + d ≤ 50 → d * 20 + 1 ≤ k →
    spec_piPieces.l0 k x3 x4 x3 (n : Int) (c : Int) = some (x4 ++ firstsFrom f n c d) := by
  intro d
  induction d with
  | zero =>
    intro c k x4 hc hl hk
    obtain ⟨k, rfl⟩ : ∃ p, k = p + 1 := ⟨k - 1, by omega⟩
    simp only [spec_piPieces.l0]
    rw [if_neg (by omega), firstsFrom, List.append_nil]
  | succ d ih =>
    intro c k x4 hc hl hk
    obtain ⟨k, rfl⟩ : ∃ p, k = p + 1 := ⟨k - 1, by omega⟩
    have hcc : wrap64 ((c : Int) + 1) = ((c + 1 : Nat) : Int) := by rw [w64 _ (by omega) (by omega)]; omega
    simp only [spec_piPieces.l0]
    rw [if_pos (by omega), if_pos (by omega), if_pos (by rw [hx.len]; omega), hx.val c (by omega), hx.len, firstsFrom]
    by_cases hq : f c = c
    · rw [if_pos (by rw [hq]), if_pos hq]
      refine pie_l1 n hn f x3 hx (P := fun o => o = some (x4 ++ ([ownFrom f c 0 n] ++ firstsFrom f n (c + 1) d))) c x4 (by omega) n 0 k (d * 20 + 1) [] (by omega) (by simp; omega) (by omega) (fun k' hk' => ?_)
      rw [hcc, List.nil_append, ih (c + 1) k' _ (by omega) (by simp; omega) hk', List.append_assoc]
    · rw [if_neg (by omega), if_neg hq, hcc, List.nil_append]
      exact ih (c + 1) k x4 (by omega) (by omega) (by omega)
section
variable {w h : Nat} (w1 : 1 ≤ w) (w4 : w ≤ 4) (h1 : 1 ≤ h) (h4 : h ≤ 4) {l2 l3 : List Int} (F : FigOK (w : Int) (h : Int) l2 l3) (n2 : l2.length ≤ 30) (n3 : l3.length ≤ 30)
include w1 w4 h1 h4 F n2 n3
theorem piPieces_f (k : Nat) (hk : 4100 ≤ k) : spec_piPieces.f k w h l2 l3 = some (piecesFrom (fin (Open (maskN w h l2 l3) (refEdges w h 0 h))) (w * h) 0 (w * h)) := by
  have hn : w * h ≤ 16 := Nat.mul_le_mul w4 h4
  obtain ⟨x, hx, hL⟩ := groups_f w1 w4 h1 h4 F n2 n3 k hk
  unfold spec_piPieces.f
  rw [hx, Option.bind_some, hL.len]
  have := pie_l0 (w * h) hn _ x hL (w * h) 0 k [] (by omega) (by simp; omega) (by omega)
  rw [firsts_pieces (fin_idem _) _ _ (by omega), List.nil_append] at this
  exact this
end

/-! The law's measure of its arguments: a list each is taken off what is left. -/
theorem sz_int (l : List Int) (a : Int) (h0 : 0 ≤ a) (ha : a ≤ 1000000) (hl : l.length ≤ maxLen) : ∃ r, laws_szIntS.f l a = some r ∧ (0 ≤ r → r = a - l.length) ∧ r ≤ 1000000 := by
  unfold laws_szIntS.f
  unfold maxLen at hl
  rw [w64 _ (by omega) (by omega)]
  by_cases hc : a - (l.length : Int) < 0
  · rw [if_pos hc]; exact ⟨_, rfl, by omega, by omega⟩
  · rw [if_neg hc]; exact ⟨_, rfl, fun _ => rfl, by omega⟩
theorem sz_fig (w h : Int) (l2 l3 : List Int) (a : Int) (h0 : 0 ≤ a) (ha : a ≤ 1000000) (h2 : l2.length ≤ maxLen) (h3 : l3.length ≤ maxLen) : ∃ r, laws_szFigure.f w h l2 l3 a = some r ∧ (0 ≤ r → r = a - l2.length - l3.length) ∧ r ≤ 1000000 := by
  unfold laws_szFigure.f
  obtain ⟨r, hr, i, j⟩ := sz_int l2 a h0 ha h2
  rw [hr]
  simp only [Option.bind_some]
  by_cases hc : r < 0
  · rw [if_pos hc]; exact ⟨_, rfl, by omega, by omega⟩
  · rw [if_neg hc]
    obtain ⟨s, hs, i2, j2⟩ := sz_int l3 r (by omega) j h3
    rw [hs]
    simp only [Option.bind_some]
    by_cases hd : s < 0
    · rw [if_pos hd]; exact ⟨_, rfl, by omega, by omega⟩
    · rw [if_neg hd]; exact ⟨_, rfl, fun _ => by rw [i2 (by omega), i (by omega)], by omega⟩

section
variable {H : Type} {enc : TypeId × Value → H} {P : Program} {W : World} {base : Nat} {held : Bool}
theorem open_row {t e : TypeId} {fuel : Nat} {v : Value} {x : DataW H × List MemPlace} (ht : P.underlying t = some (.slice e)) (he : P.underlying e = some (.int .i64)) (hc : P.cellsOf e = 1)
    (h : DataW.trod enc P W base (fun _ => true) held fuel t [v] = some x) :
    ∃ (A : Option Addr) (c : Nat) (l : List Int), v = .slice A l.length c ∧ l.length ≤ c ∧ l.length ≤ maxLen ∧ Kd.C (Kd.int .i64) W A l.length l ∧ ∀ n ∈ l, (Lit.int .i64 n).wf = true := by
  rcases open_ints ht he hc h with ⟨hcs, _⟩ | ⟨a, len, cap, zs, hcs, _, hl, hm, hz, _, hcell, hwf⟩
  · simp only [List.cons.injEq, and_true] at hcs
    subst hcs
    exact ⟨none, 0, [], rfl, Nat.le_refl _, Nat.zero_le _, Kd.C_nil _ _, fun n hn => by cases hn⟩
  · simp only [List.cons.injEq, and_true] at hcs
    subst hcs
    have hz2 : zs.length = cap := by simpa using hz
    have hlen : (zs.take len).length = len := by rw [List.length_take]; omega
    refine ⟨some a, cap, zs.take len, by rw [hlen], by omega, by omega, ?_, fun n hn => hwf n (List.mem_of_mem_take hn)⟩
    refine Kd.C_of_reads (d := (0 : Int)) (h1 := fun _ => rfl) ⟨rfl, by unfold maxLen at hm; omega, fun _ => ⟨a, rfl, fun j hj => ?_⟩⟩
    rw [hcell j (by omega)]
    rw [List.getD_eq_getElem?_getD, List.getD_eq_getElem?_getD, List.getElem?_take_of_lt (by omega)]
theorem open_num {t : TypeId} {fuel : Nat} {v : Value} {x : DataW H × List MemPlace} (ht : P.underlying t = some (.int .i64)) (h : DataW.trod enc P W base (fun _ => true) held fuel t [v] = some x) :
    ∃ n : Int, v = .int .i64 n ∧ (Lit.int .i64 n).wf = true := by
  obtain ⟨n, hv, _, hw⟩ := DataW.trod_int ht h
  simp only [List.cons.injEq, and_true] at hv
  exact ⟨n, hv, hw⟩
end
theorem cells1 : Tryd.prog.cellsOf 3 = 1 := by kernel_rfl
theorem cells2 : Tryd.prog.cellsOf 25 = 1 := by kernel_rfl
theorem cells3 : Tryd.prog.cellsOf 27 = 4 := by kernel_rfl
/-- a figure that came in, as cells -/
structure FigIn (W : World) (cs : List Value) (a0 a1 : Int) (A2 : Option Addr) (c2 : Nat) (l2 : List Int) (A3 : Option Addr) (c3 : Nat) (l3 : List Int) : Prop where
  cells : cs = [.int .i64 a0, .int .i64 a1, .slice A2 l2.length c2, .slice A3 l3.length c3]
  w0 : (Lit.int .i64 a0).wf = true
  w1 : (Lit.int .i64 a1).wf = true
  hc2 : l2.length ≤ c2
  hm2 : l2.length ≤ maxLen
  hr2 : Kd.C (Kd.int .i64) W A2 l2.length l2
  w2 : ∀ n ∈ l2, (Lit.int .i64 n).wf = true
  hc3 : l3.length ≤ c3
  hm3 : l3.length ≤ maxLen
  hr3 : Kd.C (Kd.int .i64) W A3 l3.length l3
  w3 : ∀ n ∈ l3, (Lit.int .i64 n).wf = true
/-- what the pure part may lean on: an argument that the law measures -/
structure FigW (a0 a1 : Int) (l2 l3 : List Int) : Prop where
  n2 : l2.length ≤ 1000000
  n3 : l3.length ≤ 1000000
  b0 : -9223372036854775808 ≤ a0 ∧ a0 ≤ 9223372036854775807
  b1 : -9223372036854775808 ≤ a1 ∧ a1 ≤ 9223372036854775807
theorem wf_range {n : Int} (h : (Lit.int .i64 n).wf = true) : -9223372036854775808 ≤ n ∧ n ≤ 9223372036854775807 := by
  have h2 : IntKind.i64.min ≤ n ∧ n ≤ IntKind.i64.max := by simpa [Lit.wf] using h
  exact h2
theorem FigIn.w {W : World} {cs : List Value} {a0 a1 : Int} {A2 : Option Addr} {c2 : Nat} {l2 : List Int} {A3 : Option Addr} {c3 : Nat} {l3 : List Int} (F : FigIn W cs a0 a1 A2 c2 l2 A3 c3 l3) (h2 : l2.length ≤ 1000000) (h3 : l3.length ≤ 1000000) : FigW a0 a1 l2 l3 :=
  ⟨h2, h3, wf_range F.w0, wf_range F.w1⟩
set_option maxRecDepth 100000 in
theorem open_fig {H : Type} {enc : TypeId × Value → H} {W : World} {base : Nat} {held : Bool} {fuel : Nat} {cs : List Value} {x : DataW H × List MemPlace} (h : DataW.trod enc Tryd.prog W base (fun _ => true) held fuel 27 cs = some x) :
    ∃ a0 a1 A2 c2 l2 A3 c3 l3, FigIn W cs a0 a1 A2 c2 l2 A3 c3 l3 := by
  obtain ⟨y0, y1, y2, y3, n, _, hl, h0, h1, h2, h3⟩ := trod_struct4 Tryd.underlying27 h
  rw [cells3] at hl
  match cs, hl with
  | [k0, k1, k2, k3], _ =>
    simp only [cells1, cells2, List.drop, List.take] at h0 h1 h2 h3
    obtain ⟨a0, rfl, w0⟩ := open_num Tryd.underlying3 h0
    obtain ⟨a1, rfl, w1⟩ := open_num Tryd.underlying3 h1
    obtain ⟨A2, c2, l2, rfl, hc2, hm2, hr2, w2⟩ := open_row Tryd.underlying25 Tryd.underlying3 cells1 h2
    obtain ⟨A3, c3, l3, rfl, hc3, hm3, hr3, w3⟩ := open_row Tryd.underlying25 Tryd.underlying3 cells1 h3
    exact ⟨a0, a1, A2, c2, l2, A3, c3, l3, rfl, w0, w1, hc2, hm2, hr2, w2, hc3, hm3, hr3, w3⟩

set_option maxRecDepth 100000 in
theorem open_figarg {H : Type} {enc : TypeId × Value → H} {W : World} {base : Nat} {held : Bool} {r : Reach} {b0 : Nat} {v : Value} {d : DataW H} {p : List MemPlace} (hv : Value.okWide Tryd.prog W r b0 27 v) (h : DataW.Trod enc Tryd.prog W base (fun _ => true) held 27 v d p) :
    ∃ a0 a1 A2 c2 l2 A3 c3 l3, v = .agg #[.int .i64 a0, .int .i64 a1, .slice A2 l2.length c2, .slice A3 l3.length c3] ∧ FigIn W [.int .i64 a0, .int .i64 a1, .slice A2 l2.length c2, .slice A3 l3.length c3] a0 a1 A2 c2 l2 A3 c3 l3 := by
  obtain ⟨cs, rfl, hsz⟩ := okWide_struct Tryd.underlying27 hv
  obtain ⟨fuel, hf⟩ := h
  obtain ⟨a0, a1, A2, c2, l2, A3, c3, l3, F⟩ := open_fig hf
  have hc := F.cells
  refine ⟨a0, a1, A2, c2, l2, A3, c3, l3, ?_, { F with cells := rfl }⟩
  obtain ⟨l⟩ := cs
  rw [show l = _ from hc]

namespace Shp

/-! Texts as lists of bytes. -/
def B8 (l : List UInt8) : ByteArray := ⟨l.toArray⟩
theorem B8_app (a b : List UInt8) : B8 a ++ B8 b = B8 (a ++ b) := by
  apply ByteArray.ext
  simp [B8, ByteArray.data_append]
theorem B8_size (l : List UInt8) : (B8 l).size = l.length := by simp [B8, ByteArray.size]
theorem B8_toList (l : List UInt8) : (B8 l).toList = l := by rw [Lib.toList_data]; rfl
def sg (b : Bool) (c : UInt8) : UInt8 := if b = true then c else 46
def tx (p : Nat → Bool) (c : UInt8) : Nat → Nat → List UInt8
  | _, 0 => []
  | i, d + 1 => sg (p i) c :: tx p c (i + 1) d
theorem tx_len (p : Nat → Bool) (c : UInt8) : ∀ d i, (tx p c i d).length = d
  | 0, _ => rfl
  | d + 1, i => by simp [tx, tx_len p c d]

/-! Cells as numbers. -/
def enc (w : Nat) (p : S45) : Int := p.f1 * (w : Int) + p.f0
theorem enc_inj {w : Nat} {p q : S45} (hp0 : 0 ≤ p.f0) (hp : p.f0 < (w : Int)) (hq0 : 0 ≤ q.f0) (hq : q.f0 < (w : Int)) (h : enc w p = enc w q) : p = q := by
  unfold enc at h
  have hw : (0 : Int) < (w : Int) := by omega
  have e1 : p.f1 = q.f1 := by
    have h1 : (p.f1 * (w : Int) + p.f0) / (w : Int) = p.f1 := by
      rw [Int.add_comm, Int.add_mul_ediv_right _ _ (by omega), Int.ediv_eq_zero_of_lt hp0 hp, Int.zero_add]
    have h2 : (q.f1 * (w : Int) + q.f0) / (w : Int) = q.f1 := by
      rw [Int.add_comm, Int.add_mul_ediv_right _ _ (by omega), Int.ediv_eq_zero_of_lt hq0 hq, Int.zero_add]
    rw [← h1, h, h2]
  have e0 : p.f0 = q.f0 := by rw [e1] at h; omega
  cases p; cases q
  simp only at e0 e1
  rw [e0, e1]
theorem enc_mod {w : Nat} {p : S45} (hp0 : 0 ≤ p.f0) (hp : p.f0 < (w : Int)) (h1 : 0 ≤ p.f1) : Int.tmod (enc w p) (w : Int) = p.f0 ∧ Int.tdiv (enc w p) (w : Int) = p.f1 := by
  have hw : (0 : Int) < (w : Int) := by omega
  have hm : 0 ≤ p.f1 * (w : Int) := Int.mul_nonneg h1 (by omega)
  unfold enc
  constructor
  · rw [Int.tmod_eq_emod_of_nonneg (by omega), Int.add_comm, Int.add_mul_emod_self_right, Int.emod_eq_of_lt hp0 hp]
  · rw [Int.tdiv_eq_ediv_of_nonneg (by omega), Int.add_comm, Int.add_mul_ediv_right _ _ (by omega), Int.ediv_eq_zero_of_lt hp0 hp, Int.zero_add]

/-! The reference's cutting of a text, its cells. -/
theorem w64 (x : Int) (h1 : -9223372036854775808 ≤ x) (h2 : x ≤ 9223372036854775807) : wrap64 x = x := by unfold wrap64; omega
theorem wa1 {a : Nat} (h : a ≤ 100000000) : wrap64 ((a : Int) + 1) = ((a + 1 : Nat) : Int) := by rw [w64 _ (by omega) (by omega)]; omega
theorem spl_pre : ∀ (pre t : List UInt8), (∀ b ∈ pre, b ≠ 47) → spl (pre ++ 47 :: t) = pre :: spl t
  | [], t, _ => spl_eq t
  | b :: pre, t, h => by
    rw [List.cons_append, spl_cons (h b List.mem_cons_self) (spl_pre pre t (fun c hc => h c (List.mem_cons_of_mem _ hc)))]
theorem spl_only : ∀ (pre : List UInt8), (∀ b ∈ pre, b ≠ 47) → spl pre = [pre]
  | [], _ => rfl
  | b :: pre, h => by
    rw [spl_cons (h b List.mem_cons_self) (spl_only pre (fun c hc => h c (List.mem_cons_of_mem _ hc)))]
theorem bt_get (s : ByteArray) (i : Nat) (h : i < s.size) : ∃ b, s.data.toList[i]? = some b ∧ bt s (i : Int) = (b.toNat : Int) := by
  have hl : i < s.data.toList.length := by rw [← Lib.size_eq]; exact h
  refine ⟨s.data.toList[i], List.getElem?_eq_getElem hl, ?_⟩
  unfold bt
  rw [dif_pos (by simpa using h)]
  simp [ByteArray.getElem_eq_getElem_data]
theorem split_l0 (s : ByteArray) (hs : s.size ≤ 1000) : ∀ (d i f : Nat) (acc : List ByteArray) (k : Nat), i + d = s.size → f ≤ i → d < k → acc.length ≤ i → (∀ b ∈ (s.data.toList.take i).drop f, b ≠ 47) → ∃ ps, spec_l1Split.l0 k s 47 acc (f : Int) (i : Int) = some (acc ++ ps) ∧ ps.map (·.data.toList) = spl (s.data.toList.drop f)
  | 0, i, f, acc, k, hi, hf, hk, ha, hp => by
    obtain ⟨k, rfl⟩ : ∃ m, k = m + 1 := ⟨k - 1, by omega⟩
    simp only [spec_l1Split.l0]
    rw [if_neg (by omega), if_pos (by omega), if_pos (by omega), if_pos (by omega), Int.toNat_natCast]
    refine ⟨_, rfl, ?_⟩
    have e : s.data.toList.take i = s.data.toList := List.take_of_length_le (by rw [← Lib.size_eq]; omega)
    rw [e] at hp
    rw [List.map_cons, List.map_nil, Lib.extract_to_end, spl_only _ hp]
  | d + 1, i, f, acc, k, hi, hf, hk, ha, hp => by
    obtain ⟨k, rfl⟩ : ∃ m, k = m + 1 := ⟨k - 1, by omega⟩
    obtain ⟨b, hb, hbt⟩ := bt_get s i (by omega)
    have hl : i < s.data.toList.length := by rw [← Lib.size_eq]; omega
    have hb' : s.data.toList[i] = b := by rw [List.getElem?_eq_getElem hl] at hb; exact Option.some.inj hb
    have et : s.data.toList.take (i + 1) = s.data.toList.take i ++ [b] := by rw [List.take_succ_eq_append_getElem hl, hb']
    have hlt : (s.data.toList.take i).length = i := by rw [List.length_take]; omega
    simp only [spec_l1Split.l0]
    rw [if_pos (by omega), if_pos (by omega), hbt, wa1 (by omega)]
    by_cases e : b = 47
    · subst e
      rw [if_pos (show (((47 : UInt8).toNat : Nat) : Int) = 47 from rfl), if_pos (by omega), if_pos (by omega), if_pos (by omega), if_pos (by omega), Int.toNat_natCast, Int.toNat_natCast]
      obtain ⟨ps, h1, h2⟩ := split_l0 s hs d (i + 1) (i + 1) (acc ++ [s.extract f i]) k (by omega) (Nat.le_refl _) (by omega) (by rw [List.length_append, List.length_singleton]; omega) (by
        rw [List.drop_eq_nil_of_le (by rw [et, List.length_append, hlt]; exact Nat.le_refl _)]
        intro b hb; cases hb)
      refine ⟨s.extract f i :: ps, by rw [h1, List.append_assoc]; rfl, ?_⟩
      rw [List.map_cons, h2]
      have e3 : s.data.toList.drop f = (s.data.toList.take i).drop f ++ 47 :: s.data.toList.drop (i + 1) := by
        conv => lhs; rw [← List.take_append_drop i s.data.toList]
        rw [List.drop_append_of_le_length (by omega), List.drop_eq_getElem_cons hl, hb']
      rw [e3, spl_pre _ _ hp]
      congr 1
      rw [Lib.extract_data, List.drop_take]
    · rw [if_neg (by intro h; exact e (UInt8.toNat_inj.1 (show b.toNat = 47 by omega)))]
      exact split_l0 s hs d (i + 1) f acc k (by omega) (by omega) (by omega) (by omega) (fun c hc => by
        rw [et, List.drop_append_of_le_length (by omega)] at hc
        rcases List.mem_append.1 hc with hc | hc
        · exact hp c hc
        · rw [List.mem_singleton] at hc; exact hc ▸ e)
theorem ba_ext : ∀ (ps qs : List ByteArray), ps.map (·.data.toList) = qs.map (·.data.toList) → ps = qs
  | [], [], _ => rfl
  | [], _ :: _, h => by simp at h
  | _ :: _, [], h => by simp at h
  | p :: ps, q :: qs, h => by
    rw [List.map_cons, List.map_cons, List.cons.injEq] at h
    rw [ba_ext ps qs h.2]
    congr 1
    rw [← Lib.mk_data p, ← Lib.mk_data q, h.1]
theorem split_f (s : ByteArray) (hs : s.size ≤ 1000) (k : Nat) (hk : 1010 ≤ k) : spec_piRows.f k s = some (shPs s) := by
  obtain ⟨ps, h1, h2⟩ := split_l0 s hs s.size 0 0 [] k (by omega) (Nat.le_refl _) (by omega) (Nat.le_refl _) (by simp)
  unfold spec_piRows.f spec_l1Split.f
  rw [show (0 : Int) = ((0 : Nat) : Int) from rfl, h1, Option.bind_some, List.nil_append]
  congr 1
  refine ba_ext _ _ ?_
  rw [h2, List.drop_zero]
  unfold shPs
  rw [split_rows]
theorem spec_l1In_f (a lo hi : Int) : spec_l1In.f a lo hi = some (decide (lo ≤ a) && decide (a ≤ hi)) := by
  unfold spec_l1In.f
  by_cases h : lo ≤ a
  · rw [if_pos h]; simp [h]
  · rw [if_neg (by omega)]; simp [h]
theorem has_Z (k : Nat) (l : List Int) (x : Int) (hl : l.length ≤ 100000) : ∀ (d i : Nat), i + d = l.length → d < k → (∀ j, j < i → l[j]? ≠ some x) → ∃ b, spec_l1Has.l0 k x l (l.length : Int) (i : Int) = some b ∧ (b = true ↔ x ∈ l)
  | 0, i, hi, hk, hn => by
    obtain ⟨k, rfl⟩ : ∃ m, k = m + 1 := ⟨k - 1, by omega⟩
    refine ⟨false, ?_, ⟨fun h => (by cases h), fun h => ?_⟩⟩
    · simp only [spec_l1Has.l0]
      rw [if_neg (by omega)]
    · obtain ⟨j, hj⟩ := List.getElem?_of_mem h
      exact absurd hj (hn j (by have := (List.getElem?_eq_some_iff.1 hj).1; omega))
  | d + 1, i, hi, hk, hn => by
    obtain ⟨k, rfl⟩ : ∃ m, k = m + 1 := ⟨k - 1, by omega⟩
    have hlt : i < l.length := by omega
    have er : rd l (i : Int) = l[i] := by simp [rd, hlt]
    simp only [spec_l1Has.l0]
    rw [if_pos (by omega), if_pos (by omega), if_pos (by omega), er]
    by_cases e : l[i] = x
    · rw [if_pos e]
      exact ⟨true, rfl, ⟨fun _ => e ▸ List.getElem_mem hlt, fun _ => rfl⟩⟩
    · rw [if_neg e, wa1 (by omega)]
      exact has_Z k l x hl d (i + 1) (by omega) (by omega) (fun j hj => by
        by_cases ej : j = i
        · subst ej
          rw [List.getElem?_eq_getElem hlt]
          intro h
          exact e (Option.some.inj h)
        · exact hn j (by omega))
theorem has_f (k : Nat) (l : List Int) (x : Int) (hk : l.length < k) (hl : l.length ≤ 100000) : ∃ b, spec_l1Has.f k l x = some b ∧ (b = true ↔ x ∈ l) := by
  unfold spec_l1Has.f
  exact has_Z k l x hl l.length 0 (by omega) hk (fun j hj => absurd hj (Nat.not_lt_zero _))

/-! The text that the reference makes of some cells. -/
def Mn (xs : List Int) (a L : Int) : Prop := L ≤ a ∧ (∀ x ∈ xs, L ≤ x) ∧ (L = a ∨ L ∈ xs)
def Mx (xs : List Int) (a R : Int) : Prop := a ≤ R ∧ (∀ x ∈ xs, x ≤ R) ∧ (R = a ∨ R ∈ xs)
theorem Mn.cons {xs : List Int} {a L x m : Int} (hm : m = if a < x then a else x) (h : Mn xs m L) : Mn (x :: xs) a L := by
  obtain ⟨h1, h2, h3⟩ := h
  by_cases c : a < x
  · rw [if_pos c] at hm
    subst hm
    exact ⟨h1, fun y hy => by rcases List.mem_cons.1 hy with rfl | hy; · omega
                              · exact h2 y hy, h3.imp id (fun h => List.mem_cons_of_mem _ h)⟩
  · rw [if_neg c] at hm
    subst hm
    exact ⟨by omega, fun y hy => by rcases List.mem_cons.1 hy with rfl | hy; · omega
                                    · exact h2 y hy, .inr (h3.elim (fun h => h ▸ List.mem_cons_self) (fun h => List.mem_cons_of_mem _ h))⟩
theorem Mx.cons {xs : List Int} {a R x m : Int} (hm : m = if a > x then a else x) (h : Mx xs m R) : Mx (x :: xs) a R := by
  obtain ⟨h1, h2, h3⟩ := h
  by_cases c : a > x
  · rw [if_pos c] at hm
    subst hm
    exact ⟨h1, fun y hy => by rcases List.mem_cons.1 hy with rfl | hy; · omega
                              · exact h2 y hy, h3.imp id (fun h => List.mem_cons_of_mem _ h)⟩
  · rw [if_neg c] at hm
    subst hm
    exact ⟨by omega, fun y hy => by rcases List.mem_cons.1 hy with rfl | hy; · omega
                                    · exact h2 y hy, .inr (h3.elim (fun h => h ▸ List.mem_cons_self) (fun h => List.mem_cons_of_mem _ h))⟩
theorem least_f (a b : Int) : spec_l1Least.f a b = some (if a < b then a else b) := by unfold spec_l1Least.f; split <;> rfl
theorem most_f (a b : Int) : spec_l1Most.f a b = some (if a > b then a else b) := by unfold spec_l1Most.f; split <;> rfl
/-- a cell of a grid w wide -/
def InW (w : Nat) (p : S45) : Prop := 0 ≤ p.f0 ∧ p.f0 < (w : Int) ∧ 0 ≤ p.f1 ∧ p.f1 ≤ 1000000
section
variable {w : Nat} (w1 : 1 ≤ w) (hw : w ≤ 1000) {cells : List S45} (hc : ∀ p ∈ cells, InW w p) (hl : cells.length ≤ 1000)
include w1 hw hc hl
theorem pt_l0 : ∀ (d i k : Nat) (a b c e : Int), i + d = cells.length → ∃ L R T B, spec_piText.l0 (k + d + 1) w (cells.map (enc w)) a b c e (cells.map (enc w)) ((cells.map (enc w)).length : Int) (i : Int) = spec_piText.l1 k w (cells.map (enc w)) L R T B ⟨#[]⟩ T ∧
    Mn ((cells.drop i).map (·.f0)) a L ∧ Mx ((cells.drop i).map (·.f0)) b R ∧ Mn ((cells.drop i).map (·.f1)) c T ∧ Mx ((cells.drop i).map (·.f1)) e B
  | 0, i, k, a, b, c, e, hi => by
    refine ⟨a, b, c, e, ?_, ?_⟩
    · simp only [spec_piText.l0]
      rw [if_neg (by rw [List.length_map]; omega)]
    · rw [List.drop_eq_nil_of_le (by omega)]
      exact ⟨⟨Int.le_refl _, by simp, .inl rfl⟩, ⟨Int.le_refl _, by simp, .inl rfl⟩, ⟨Int.le_refl _, by simp, .inl rfl⟩, ⟨Int.le_refl _, by simp, .inl rfl⟩⟩
  | d + 1, i, k, a, b, c, e, hi => by
    have hil : i < cells.length := by omega
    obtain ⟨p, hp⟩ : ∃ p, cells[i]? = some p := ⟨_, List.getElem?_eq_getElem hil⟩
    have hpw := hc p (List.mem_of_getElem? hp)
    obtain ⟨p0, pw, q0, qh⟩ := hpw
    obtain ⟨em, ed⟩ := enc_mod (w := w) p0 pw q0
    have er : rd (cells.map (enc w)) (i : Int) = enc w p := by unfold rd; rw [Int.toNat_natCast, List.getD_eq_getElem?_getD, List.getElem?_map, hp]; rfl
    obtain ⟨L, R, T, B, h1, h2, h3, h4, h5⟩ := pt_l0 d (i + 1) k (if a < p.f0 then a else p.f0) (if b > p.f0 then b else p.f0) (if c < p.f1 then c else p.f1) (if e > p.f1 then e else p.f1) (by omega)
    have edrop : cells.drop i = p :: cells.drop (i + 1) := by rw [List.drop_eq_getElem_cons hil]; rw [List.getElem?_eq_getElem hil] at hp; rw [Option.some.inj hp]
    refine ⟨L, R, T, B, ?_, ?_⟩
    · rw [show k + (d + 1) + 1 = (k + d + 1) + 1 by omega]
      rw [← h1]
      generalize k + d + 1 = m
      simp only [spec_piText.l0]
      rw [if_pos (by rw [List.length_map]; omega), if_pos (by omega), if_pos (by rw [List.length_map]; omega), if_neg (by omega), er, em, ed, w64 p.f1 (by omega) (by omega), least_f, Option.bind_some, most_f, Option.bind_some, least_f, Option.bind_some, most_f, Option.bind_some, wa1 (by omega)]
    · rw [edrop, List.map_cons, List.map_cons]
      exact ⟨h2.cons rfl, h3.cons rfl, h4.cons rfl, h5.cons rfl⟩
variable (P : Nat → Nat → Bool) (hP : ∀ y x : Nat, x < w → (P y x = true ↔ (⟨(x : Int), (y : Int)⟩ : S45) ∈ cells))
include hP
theorem pt_l2 (l r t b y : Nat) (hr : r < w) (hy : y ≤ 100000) : ∀ (d x k : Nat) (acc : List UInt8), x + d = r + 1 → 2000 ≤ k → acc.length + d ≤ 1000000 →
    spec_piText.l2 (k + d + 1) w (cells.map (enc w)) l r t b (B8 acc) (y : Int) (x : Int) = spec_piText.l1 k w (cells.map (enc w)) l r t b (B8 (acc ++ tx (P y) 111 x d)) ((y + 1 : Nat) : Int)
  | 0, x, k, acc, hx, hk, ha => by
    simp only [spec_piText.l2, tx, List.append_nil]
    rw [if_neg (by omega), wa1 (by omega)]
  | d + 1, x, k, acc, hx, hk, ha => by
    have hm : y * w ≤ 100000 * 1000 := Nat.mul_le_mul hy hw
    have hxw : x < w := by omega
    have e3 : wrap64 ((wrap64 ((y : Int) * (w : Int))) + (x : Int)) = enc w ⟨(x : Int), (y : Int)⟩ := by
      unfold enc
      have e3 : (y : Int) * (w : Int) = ((y * w : Nat) : Int) := by push_cast; rfl
      rw [e3, w64 ((y * w : Nat) : Int) (by omega) (by omega), w64 _ (by omega) (by omega)]
    obtain ⟨v, hv, hvi⟩ := has_f (k + d + 1) (cells.map (enc w)) (enc w ⟨(x : Int), (y : Int)⟩) (by rw [List.length_map]; omega) (by rw [List.length_map]; omega)
    have hvP : v = P y x := by
      rw [Bool.eq_iff_iff, hvi, hP y x hxw]
      constructor
      · intro h
        obtain ⟨p, hp, e⟩ := List.mem_map.1 h
        obtain ⟨p0, pw, _⟩ := hc p hp
        have := enc_inj (w := w) (p := p) (q := ⟨(x : Int), (y : Int)⟩) p0 pw (by simp) (by simp only; omega) e
        exact this ▸ hp
      · intro h; exact List.mem_map.2 ⟨_, h, rfl⟩
    have ih := fun c => pt_l2 l r t b y hr hy d (x + 1) k (acc ++ [c]) (by omega) hk (by rw [List.length_append, List.length_singleton]; omega)
    rw [show k + (d + 1) + 1 = (k + d + 1) + 1 by omega]
    generalize hmm : k + d + 1 = m at hv ih ⊢
    simp only [spec_piText.l2]
    rw [if_pos (by omega), e3, hv, Option.bind_some, wa1 (by omega), hvP]
    cases hb : P y x with
    | true =>
      rw [if_pos rfl, if_pos (by rw [B8_size]; omega), show (⟨#[111]⟩ : ByteArray) = B8 [111] from rfl, B8_app, ih]
      simp only [tx, hb, sg, if_true, List.append_assoc, List.singleton_append]
    | false =>
      rw [if_neg (by decide), if_pos (by rw [B8_size]; omega), show (⟨#[46]⟩ : ByteArray) = B8 [46] from rfl, B8_app, ih]
      simp only [tx, hb, sg, Bool.false_eq_true, if_false, List.append_assoc, List.singleton_append]
def bT (P : Nat → Nat → Bool) (l n t : Nat) : Nat → Nat → List UInt8
  | _, 0 => []
  | y, d + 1 => (if y > t then [47] else []) ++ tx (P y) 111 l n ++ bT P l n t (y + 1) d
theorem pt_l1 (l r t b : Nat) (hr : r < w) (hlr : l ≤ r + 1) (hbb : b ≤ 10000) : ∀ (d y k : Nat) (acc : List UInt8), y + d = b + 1 → 2000 + (w + 4) * d + 1 ≤ k → acc.length + (w + 1) * d ≤ 900000 →
    spec_piText.l1 k w (cells.map (enc w)) l r t b (B8 acc) (y : Int) = some (B8 (acc ++ bT P l (r + 1 - l) t y d))
  | 0, y, k, acc, hy, hk, ha => by
    obtain ⟨k, rfl⟩ : ∃ m, k = m + 1 := ⟨k - 1, by omega⟩
    simp only [spec_piText.l1, bT, List.append_nil]
    rw [if_neg (by omega)]
  | d + 1, y, k, acc, hy, hk, ha => by
    have e1 : (w + 4) * (d + 1) = (w + 4) * d + w + 4 := by rw [Nat.mul_succ]; omega
    have e2 : (w + 1) * (d + 1) = (w + 1) * d + w + 1 := by rw [Nat.mul_succ]; omega
    obtain ⟨k, rfl⟩ : ∃ m, k = m + (r + 1 - l) + 3 := ⟨k - (r + 1 - l) - 3, by omega⟩
    have hj : ∀ acc' : List UInt8, acc'.length ≤ acc.length + 1 → spec_piText.j2 (k + (r + 1 - l) + 2) w (cells.map (enc w)) l r t b (B8 acc') (y : Int) = some (B8 (acc' ++ tx (P y) 111 l (r + 1 - l) ++ bT P l (r + 1 - l) t (y + 1) d)) := by
      intro acc' h'
      simp only [spec_piText.j2]
      rw [pt_l2 w1 hw hc hl P hP l r t b y hr (by omega) (r + 1 - l) l k acc' (by omega) (by omega) (by omega), pt_l1 l r t b hr hlr hbb d (y + 1) k _ (by omega) (by omega) (by rw [List.length_append, tx_len]; omega)]
    rw [show k + (r + 1 - l) + 3 = (k + (r + 1 - l) + 2) + 1 by omega]
    generalize k + (r + 1 - l) + 2 = m at hj ⊢
    simp only [spec_piText.l1]
    rw [if_pos (by omega)]
    by_cases c : y > t
    · rw [if_pos (by omega), if_pos (by rw [B8_size]; omega), show (⟨#[47]⟩ : ByteArray) = B8 [47] from rfl, B8_app, hj _ (by simp)]
      simp only [bT, if_pos c, List.append_assoc]
    · rw [if_neg (by omega), hj _ (by omega)]
      simp only [bT, if_neg c, List.append_assoc, List.nil_append]
end
theorem bT_len (P : Nat → Nat → Bool) (l n t : Nat) : ∀ (d y : Nat), t < y → (bT P l n t y d).length = (n + 1) * d
  | 0, y, _ => rfl
  | d + 1, y, h => by
    rw [bT, if_pos h, List.length_append, List.length_append, tx_len, bT_len P l n t d (y + 1) (by omega), Nat.mul_succ, List.length_singleton]
    omega
theorem bT_len0 (P : Nat → Nat → Bool) (l n t d : Nat) : (bT P l n t t (d + 1)).length = n + (n + 1) * d := by
  rw [bT, if_neg (by omega), List.nil_append, List.length_append, tx_len, bT_len P l n t d (t + 1) (by omega)]

/-! The rows of a text. -/
section
variable (s : ByteArray)
theorem shRows_spl : shRows s = spl s.data.toList := by
  unfold shRows shPs
  exact split_rows s
theorem rows_pos : 0 < (shPs s).length := by
  have : 0 < (shRows s).length := by rw [shRows_spl]; exact List.length_pos_iff.2 (spl_ne _)
  unfold shRows at this
  rwa [List.length_map] at this
theorem size_rows (hrows : ∀ r ∈ shPs s, r.size = shW s) : s.size + 1 = (shW s + 1) * (shPs s).length := by
  have h := spl_len s.data.toList (shW s) (fun r hr => by
    rw [← shRows_spl] at hr
    unfold shRows at hr
    obtain ⟨q, hq, rfl⟩ := List.mem_map.1 hr
    rw [← Lib.size_eq]
    exact hrows q hq)
  rw [← shRows_spl, ← Lib.size_eq] at h
  unfold shRows at h
  rwa [List.length_map] at h
end

/-! The two turned texts are the same. -/
theorem te_ext {a b : ByteArray} (h : a.data.toList = b.data.toList) : a = b := by
  apply ByteArray.ext
  exact Array.toList_inj.1 h
theorem te_extract (q : ByteArray) (x : Nat) (hx : x < q.size) : (q.extract x (x + 1)).data.toList = (strOfNums [bt q (x : Int)]).data.toList := by
  have hx' : x < q.data.toList.length := by rw [← Lib.size_eq]; exact hx
  obtain ⟨b, hb, hbt⟩ := bt_get q x hx
  obtain ⟨h1, h2⟩ := List.getElem?_eq_some_iff.1 hb
  rw [hbt, ByteArray.data_extract, Array.toList_extract, List.extract_eq_take_drop, List.drop_eq_getElem_cons hx', h2]
  have e : x + 1 - x = 1 := by omega
  rw [e]
  simp [strOfNums]
theorem te_nums (a b : List Int) : (strOfNums (a ++ b)).data.toList = (strOfNums a).data.toList ++ (strOfNums b).data.toList := by simp [strOfNums]
theorem te_col (ps : List ByteArray) (w x : Nat) (hr : ∀ r ∈ ps, r.size = w) (hx : x < w) : ∀ n a, n ≤ ps.length → (ptCol ps x n a).data.toList = a.data.toList ++ (strOfNums ((ps.take n).reverse.map fun r => bt r (x : Int))).data.toList
  | 0, a, _ => by simp [ptCol, strOfNums]
  | n + 1, a, h => by
    have hn : n < ps.length := by omega
    have e : rdOf ByteArray.empty ps (n : Int) = ps[n] := by simp [rdOf, hn]
    have hs : ps[n].size = w := hr _ (List.getElem_mem hn)
    rw [ptCol, te_col ps w x hr hx n _ (by omega), e, ByteArray.data_append, Array.toList_append, te_extract _ _ (by omega), List.take_succ_eq_append_getElem hn, List.reverse_append, List.map_append, te_nums]
    simp
theorem te_joinTail (r : List (List UInt8)) (y : List UInt8) : Lib.joinTail [47] (r ++ [y]) = Lib.joinTail [47] r ++ (47 :: y) := by
  simp [Lib.joinTail]
theorem te_join (xs : List (List UInt8)) (y : List UInt8) (h : xs ≠ []) : Lib.join (xs ++ [y]) [47] = Lib.join xs [47] ++ (47 :: y) := by
  cases xs with
  | nil => exact absurd rfl h
  | cons x r => rw [List.cons_append, Lib.join_cons, Lib.join_cons, te_joinTail, List.append_assoc]
theorem te_acc (ps : List ByteArray) (w : Nat) (hr : ∀ r ∈ ps, r.size = w) : ∀ x, x ≤ w → (ptAcc ps x).data.toList = Lib.join ((tnRows ps x).map (·.data.toList)) [47]
  | 0, _ => by simp [ptAcc, tnRows, Lib.join_nil]
  | x + 1, h => by
    have ih := te_acc ps w hr x (by omega)
    have hcol := te_col ps w x hr (by omega) ps.length (if 0 < x then ptAcc ps x ++ ⟨#[47]⟩ else ptAcc ps x) (Nat.le_refl _)
    rw [List.take_length] at hcol
    have hrow : (ps.reverse.map fun r => bt r (x : Int)) = tnRow ps x := rfl
    rw [ptAcc, hcol, hrow, show tnRows ps (x + 1) = tnRows ps x ++ [strOfNums (tnRow ps x)] by simp [tnRows, List.range_succ], List.map_append, List.map_cons, List.map_nil]
    by_cases c : 0 < x
    · rw [if_pos c, te_join _ _ (by simp [tnRows]; omega), ByteArray.data_append, Array.toList_append, ih, List.append_assoc]
      rfl
    · obtain rfl : x = 0 := by omega
      rw [if_neg c, ih]
      simp [tnRows, Lib.join_nil, Lib.join_cons, Lib.joinTail]
theorem te_eq (ps : List ByteArray) (w : Nat) (hr : ∀ r ∈ ps, r.size = w) : ptAcc ps w = tnJoin (tnRows ps w) := te_ext (by rw [te_acc ps w hr w (Nat.le_refl _)]; simp [tnJoin])

/-! Both turned texts of a shape. -/
theorem row0_mem (s : ByteArray) : rdOf ByteArray.empty (shPs s) 0 ∈ shPs s := by
  unfold rdOf
  rw [List.getD_eq_getElem?_getD, List.getElem?_eq_getElem (show (0 : Int).toNat < (shPs s).length from rows_pos s)]
  exact List.getElem_mem _
theorem turn_pure (s : ByteArray) (hs : s.size ≤ 1000) (k : Nat) (hk : 1010 ≤ k) (h1 : ∀ r ∈ shPs s, r.size = shW s) (h2 : ∀ r ∈ shPs s, ∀ b ∈ r.data.toList, b = 111 ∨ b = 46) (h3 : 1 ≤ shW s) :
    spec_piTurn.f k s = some (tnJoin (tnRows (shPs s) (shW s))) ∧ impl_turnedShape.f s = some (tnJoin (tnRows (shPs s) (shW s))) := by
  have hm := row0_mem s
  have hw := shPs_size s _ hm
  constructor
  · unfold spec_piTurn.f
    rw [split_f s hs k hk, Option.bind_some]
    unfold ptF
    rw [if_pos ⟨⟨rows_pos s, (sh_len s (by omega)).2⟩, h1, by omega, fun b hb => by rcases h2 _ hm b hb with rfl | rfl <;> decide⟩]
    exact congrArg some (te_eq (shPs s) (shW s) h1)
  · unfold impl_turnedShape.f
    rw [if_pos ⟨by omega, h1, h3⟩]

/-! The first of texts, and the eight that turning and mirroring make. -/
theorem ls_total (a b : List UInt8) : a ≤ b ∨ b ≤ a := List.le_total a b
theorem ls_trans {a b c : List UInt8} (h1 : a ≤ b) (h2 : b ≤ c) : a ≤ c := List.le_trans h1 h2
theorem ls_anti {a b : List UInt8} (h1 : a ≤ b) (h2 : b ≤ a) : a = b := Std.le_antisymm h1 h2
theorem ls_lt {a b : List UInt8} : a < b ↔ ¬ b ≤ a := List.not_le.symm
theorem ms_spec (x y : ByteArray) : (Lib.minS x y = x ∨ Lib.minS x y = y) ∧ (Lib.minS x y).data.toList ≤ x.data.toList ∧ (Lib.minS x y).data.toList ≤ y.data.toList := by
  unfold Lib.minS
  have rf : ∀ l : List UInt8, l ≤ l := fun l => by rcases ls_total l l with h | h <;> exact h
  split
  · rename_i h
    refine ⟨.inl rfl, rf _, ?_⟩
    rcases h with h | h
    · rcases ls_total x.data.toList y.data.toList with h' | h'
      · exact h'
      · exact absurd h' (ls_lt.1 h)
    · rw [h]; exact rf _
  · rename_i h
    refine ⟨.inr rfl, ?_, rf _⟩
    rcases ls_total x.data.toList y.data.toList with h' | h'
    · exfalso
      by_cases e : y.data.toList ≤ x.data.toList
      · exact h (.inr (ls_anti h' e))
      · exact h (.inl (ls_lt.2 e))
    · exact h'
theorem ms_assoc (b x m : ByteArray) : Lib.minS (Lib.minS b x) m = Lib.minS b (Lib.minS x m) := by
  obtain ⟨p1, p2, p3⟩ := ms_spec (Lib.minS b x) m
  obtain ⟨q1, q2, q3⟩ := ms_spec b x
  obtain ⟨r1, r2, r3⟩ := ms_spec b (Lib.minS x m)
  obtain ⟨s1, s2, s3⟩ := ms_spec x m
  generalize hP : Lib.minS (Lib.minS b x) m = P at *
  generalize hQ : Lib.minS b (Lib.minS x m) = Q at *
  have pb := ls_trans p2 q2
  have px := ls_trans p2 q3
  have qx := ls_trans r3 s2
  have qm := ls_trans r3 s3
  refine te_ext (ls_anti ?_ ?_)
  · rcases r1 with e | e
    · rw [e]; exact pb
    · rcases s1 with e' | e'
      · rw [e, e']; exact px
      · rw [e, e']; exact p3
  · rcases p1 with e | e
    · rcases q1 with e' | e'
      · rw [e, e']; exact r2
      · rw [e, e']; exact qx
    · rw [e]; exact qm
theorem ms_self (x : ByteArray) : Lib.minS x x = x := by rcases (ms_spec x x).1 with h | h <;> exact h
theorem pm_eq (a b : ByteArray) : spec_piMin.f a b = some (Lib.minS a b) := by
  unfold spec_piMin.f Lib.minS
  rw [Go.Proofs.bytesLess_eq, Lib.toList_data, Lib.toList_data]
  by_cases h : b.data.toList < a.data.toList
  · rw [if_pos (decide_eq_true h), if_neg]
    rintro (h' | h')
    · exact List.lt_irrefl _ (List.lt_trans h h')
    · rw [h'] at h; exact List.lt_irrefl _ h
  · rw [if_neg (by simpa using h), if_pos]
    have h1 : a.data.toList ≤ b.data.toList := List.not_lt.1 h
    by_cases e : b.data.toList ≤ a.data.toList
    · exact .inr (ls_anti h1 e)
    · exact .inl (ls_lt.2 e)
/-- one byte of a row -/
theorem ex1 (q : ByteArray) (x : Nat) (hx : x < q.data.toList.length) : q.extract x (x + 1) = B8 [q.data.toList[x]] := by
  apply te_ext
  rw [ByteArray.data_extract, Array.toList_extract, List.extract_eq_take_drop, List.drop_eq_getElem_cons hx, show x + 1 - x = 1 by omega]
  simp [B8]
section
variable (ps : List ByteArray) (w : Nat) (hr : ∀ r ∈ ps, r.size = w) (hw : w ≤ 1000) (hl : ps.length ≤ 1000)
include hw
theorem mi_l1 (r : ByteArray) (hrw : r.size = w) (n i : Int) : ∀ (j k : Nat) (acc : List UInt8), j ≤ w → acc.length + j ≤ 1000000 →
    spec_piMirror.l1 (k + j + 1) (B8 acc) r ((j : Int) - 1) ps n i = spec_piMirror.l0 k (B8 (acc ++ (r.data.toList.take j).reverse)) ps n (wrap64 (i + 1))
  | 0, k, acc, _, _ => by
    simp only [spec_piMirror.l1]
    rw [if_neg (by omega), List.take_zero, List.reverse_nil, List.append_nil]
  | j + 1, k, acc, hj, ha => by
    have hs : j < r.data.toList.length := by rw [← Lib.size_eq]; omega
    have e1 : (((j + 1 : Nat) : Int) - 1) = (j : Int) := by omega
    have e2 : wrap64 ((j : Int) + 1) = ((j + 1 : Nat) : Int) := wa1 (by omega)
    have e3 : wrap64 ((j : Int) - 1) = (j : Int) - 1 := w64 _ (by omega) (by omega)
    have ih := mi_l1 r hrw n i j k (acc ++ [r.data.toList[j]]) (by omega) (by rw [List.length_append, List.length_singleton]; omega)
    rw [show k + (j + 1) + 1 = (k + j + 1) + 1 by omega, e1]
    generalize k + j + 1 = m at ih ⊢
    simp only [spec_piMirror.l1]
    rw [if_pos (by omega), if_pos (by omega), e2, if_pos (by omega), if_pos (by omega), Int.toNat_natCast, Int.toNat_natCast, ex1 r j hs, if_pos (by rw [B8_size, B8_size]; simp; omega), B8_app, e3, ih, List.take_succ_eq_append_getElem hs, List.reverse_append]
    simp
def jm (i : Nat) : List UInt8 := Lib.join (((ps.take i).map mlRow).map (·.data.toList)) [47]
include hr hl
theorem mi_l0 : ∀ (d i k : Nat), i + d = ps.length → (w + 4) * d + 1 ≤ k → (jm ps i).length + (w + 1) * d ≤ 1000000 → spec_piMirror.l0 k (B8 (jm ps i)) ps (ps.length : Int) (i : Int) = some (B8 (jm ps ps.length))
  | 0, i, k, hi, hk, _ => by
    obtain ⟨k, rfl⟩ : ∃ m, k = m + 1 := ⟨k - 1, by omega⟩
    obtain rfl : i = ps.length := by omega
    simp only [spec_piMirror.l0]
    rw [if_neg (by omega)]
  | d + 1, i, k, hi, hk, ha => by
    have e1 : (w + 4) * (d + 1) = (w + 4) * d + w + 4 := by rw [Nat.mul_succ]; omega
    have e2 : (w + 1) * (d + 1) = (w + 1) * d + w + 1 := by rw [Nat.mul_succ]; omega
    have hil : i < ps.length := by omega
    have hrd : rdOf ByteArray.empty ps (i : Int) = ps[i] := by simp [rdOf, hil]
    have hs := hr _ (List.getElem_mem hil)
    have hjm : jm ps (i + 1) = (if 0 < i then jm ps i ++ [47] else jm ps i) ++ ps[i].data.toList.reverse := by
      unfold jm
      rw [List.take_succ_eq_append_getElem hil, List.map_append, List.map_append]
      by_cases c : 0 < i
      · rw [if_pos c, List.map_cons, List.map_cons, List.map_nil, List.map_nil, te_join _ _ (List.ne_nil_of_length_pos (by rw [List.length_map, List.length_map, List.length_take]; omega))]
        simp [mlRow]
      · obtain rfl : i = 0 := by omega
        rw [if_neg c]
        simp [Lib.join_nil, Lib.join_cons, Lib.joinTail, mlRow]
    have hlen : ps[i].data.toList.length = w := by rw [← Lib.size_eq]; exact hs
    have hbody : ∀ acc : List UInt8, acc.length ≤ (jm ps i).length + 1 → acc ++ ps[i].data.toList.reverse = jm ps (i + 1) → ∀ m, m = k - 1 → spec_piMirror.j1 m (B8 acc) ps[i] ps (ps.length : Int) (i : Int) = some (B8 (jm ps ps.length)) := by
      rintro acc h1 h2 m rfl
      obtain ⟨k', rfl⟩ : ∃ m, k = m + w + 3 := ⟨k - w - 3, by omega⟩
      rw [show k' + w + 3 - 1 = (k' + w + 1) + 1 by omega]
      simp only [spec_piMirror.j1]
      have hl1 := mi_l1 ps w hw ps[i] hs (ps.length : Int) (i : Int) w k' acc (Nat.le_refl _) (by omega)
      rw [hs, w64 _ (by omega) (by omega), hl1, List.take_of_length_le (by omega), h2, wa1 (by omega)]
      have h3 := congrArg List.length h2
      rw [List.length_append, List.length_reverse, hlen] at h3
      exact mi_l0 d (i + 1) k' (by omega) (by omega) (by omega)
    obtain ⟨k, rfl⟩ : ∃ m, k = m + 1 := ⟨k - 1, by omega⟩
    simp only [spec_piMirror.l0]
    rw [if_pos (by omega), if_pos (by omega), if_pos (by omega), hrd]
    by_cases c : 0 < i
    · rw [if_pos (by omega), if_pos (by rw [B8_size]; omega), show (⟨#[47]⟩ : ByteArray) = B8 [47] from rfl, B8_app]
      exact hbody _ (by rw [List.length_append, List.length_singleton]; omega) (by rw [hjm, if_pos c]) k (by omega)
    · rw [if_neg (by omega)]
      exact hbody _ (by omega) (by rw [hjm, if_neg c]) k (by omega)
theorem mi_all (k : Nat) (hk : (w + 4) * ps.length + 1 ≤ k) (ha : (w + 1) * ps.length ≤ 1000000) : spec_piMirror.l0 k (⟨#[]⟩ : ByteArray) ps (ps.length : Int) 0 = some (mlJoin ps) := by
  have h0 : jm ps 0 = [] := by simp [jm, Lib.join_nil]
  have := mi_l0 ps w hr hw hl ps.length 0 k (by omega) hk (by rw [h0]; simpa using ha)
  rw [h0] at this
  have e : B8 (jm ps ps.length) = mlJoin ps := by
    unfold jm mlJoin tnJoin B8
    rw [List.take_length]
  rw [e] at this
  exact this
end

/-! The least of the eight, in both programs. -/
structure ShT (s : ByteArray) : Prop where
  rows : ∀ r ∈ shPs s, r.size = shW s
  bytes : ∀ r ∈ shPs s, ∀ b ∈ r.data.toList, b = 111 ∨ b = 46
  wide : 1 ≤ shW s
  area : shW s * (shPs s).length ≤ 201
theorem spl_join : ∀ rs : List (List UInt8), rs ≠ [] → (∀ r ∈ rs, ∀ b ∈ r, b ≠ 47) → spl (Lib.join rs [47]) = rs
  | [], h, _ => absurd rfl h
  | [r], _, h => by
    rw [Lib.join_cons, show Lib.joinTail [47] ([] : List (List UInt8)) = [] from rfl, List.append_nil]
    exact spl_only r (h r List.mem_cons_self)
  | r :: r' :: rs, _, h => by
    have e : Lib.join (r :: r' :: rs) [47] = r ++ 47 :: Lib.join (r' :: rs) [47] := by simp [Lib.join_cons, Lib.joinTail]
    rw [e, spl_pre r _ (h r List.mem_cons_self), spl_join (r' :: rs) (by simp) (fun q hq => h q (List.mem_cons_of_mem _ hq))]
theorem tnJoin_list (xs : List ByteArray) : (tnJoin xs).data.toList = Lib.join (xs.map (·.data.toList)) [47] := by simp [tnJoin]
theorem shPs_join (xs : List ByteArray) (hne : xs ≠ []) (hb : ∀ r ∈ xs, ∀ b ∈ r.data.toList, b ≠ 47) : shPs (tnJoin xs) = xs := by
  apply ba_ext
  have h := shRows_spl (tnJoin xs)
  unfold shRows at h
  rw [h, tnJoin_list]
  refine spl_join _ (by simpa using hne) ?_
  intro r hr b hbr
  obtain ⟨q, hq, rfl⟩ := List.mem_map.1 hr
  exact hb q hq b hbr
theorem nums_size (l : List Int) : (strOfNums l).size = l.length := by rw [Lib.size_eq]; simp [strOfNums]
theorem tr_bytes (ps : List ByteArray) (w x : Nat) (hr : ∀ r ∈ ps, r.size = w) (hb : ∀ r ∈ ps, ∀ b ∈ r.data.toList, b = 111 ∨ b = 46) (hx : x < w) : ∀ b ∈ (strOfNums (tnRow ps x)).data.toList, b = 111 ∨ b = 46 := by
  intro b hbm
  simp only [strOfNums, tnRow, List.map_map, List.mem_map, Function.comp] at hbm
  obtain ⟨q, hq, rfl⟩ := hbm
  have hq' : q ∈ ps := List.mem_reverse.1 hq
  obtain ⟨c, hc, hbt⟩ := bt_get q x (by rw [hr q hq']; exact hx)
  rw [hbt, Int.toNat_natCast]
  have := hb q hq' c (List.mem_of_getElem? hc)
  simpa using this
theorem ShT.turn {s : ByteArray} (h : ShT s) : ShT (tnJoin (tnRows (shPs s) (shW s))) := by
  have hpos := rows_pos s
  have hm : ∀ r ∈ tnRows (shPs s) (shW s), r.size = (shPs s).length ∧ ∀ b ∈ r.data.toList, b = 111 ∨ b = 46 := by
    intro r hr
    obtain ⟨x, hx, rfl⟩ := List.mem_map.1 hr
    exact ⟨by rw [nums_size, tnRow_len], tr_bytes (shPs s) (shW s) x h.rows h.bytes (List.mem_range.1 hx)⟩
  have hl : (tnRows (shPs s) (shW s)).length = shW s := by simp [tnRows]
  have hw := h.wide
  have e := shPs_join (tnRows (shPs s) (shW s)) (List.ne_nil_of_length_pos (by omega)) (fun r hr b hb => by rcases (hm r hr).2 b hb with rfl | rfl <;> decide)
  have ew : shW (tnJoin (tnRows (shPs s) (shW s))) = (shPs s).length := by
    have e0 : ∀ u : ByteArray, shW u = (rdOf ByteArray.empty (shPs u) 0).size := fun _ => rfl
    rw [e0, e]
    refine (hm _ ?_).1
    exact rdOf_mem _ 0 (by omega)
  refine ⟨?_, ?_, ?_, ?_⟩
  · rw [e, ew]; exact fun r hr => (hm r hr).1
  · rw [e]; exact fun r hr => (hm r hr).2
  · rw [ew]; exact hpos
  · rw [e, ew, hl, Nat.mul_comm]; exact h.area
theorem ShT.bounds {s : ByteArray} (h : ShT s) : shW s ≤ 201 ∧ (shPs s).length ≤ 201 ∧ s.size ≤ 402 := by
  have hpos := rows_pos s
  have h1 := h.area
  have h2 := h.wide
  have h3 : shW s * 1 ≤ shW s * (shPs s).length := Nat.mul_le_mul_left _ hpos
  have h4 : 1 * (shPs s).length ≤ shW s * (shPs s).length := Nat.mul_le_mul_right _ h2
  have h5 := size_rows s h.rows
  rw [Nat.succ_mul] at h5
  omega
theorem ShT.steps {s : ByteArray} (h : ShT s) (k : Nat) (hk : 2500 ≤ k) :
    spec_piMirror.f k s = some (mlJoin (shPs s)) ∧ impl_mirroredShape.f s = some (mlJoin (shPs s)) ∧ spec_piTurn.f k s = some (tnJoin (tnRows (shPs s) (shW s))) ∧ impl_turnedShape.f s = some (tnJoin (tnRows (shPs s) (shW s))) := by
  obtain ⟨b1, b2, b3⟩ := h.bounds
  obtain ⟨t1, t2⟩ := turn_pure s (by omega) k (by omega) h.rows h.bytes h.wide
  have ha := h.area
  refine ⟨?_, ?_, t1, t2⟩
  · unfold spec_piMirror.f
    rw [split_f s (by omega) k (by omega), Option.bind_some]
    refine mi_all (shPs s) (shW s) h.rows (by omega) (by omega) k ?_ ?_
    · rw [Nat.add_mul]; omega
    · rw [Nat.add_mul]; omega
  · unfold impl_mirroredShape.f
    rw [if_pos (by omega)]
theorem least_fold : ∀ (n i : Nat) (y best : ByteArray) (k : Nat), n + i = 4 → ShT y → 3000 + n ≤ k → ∃ L, e8s n y = some L ∧ spec_piLeast.l0 k y best (i : Int) = some (L.foldl Lib.minS best) ∧ (0 < n → ∃ r, L = y :: r)
  | 0, i, y, best, k, hi, h, hk => by
    obtain ⟨k, rfl⟩ : ∃ m, k = m + 1 := ⟨k - 1, by omega⟩
    refine ⟨[], rfl, ?_, fun h => absurd h (by omega)⟩
    simp only [spec_piLeast.l0]
    rw [if_neg (by omega)]
    rfl
  | n + 1, i, y, best, k, hi, h, hk => by
    obtain ⟨k, rfl⟩ : ∃ m, k = m + 1 := ⟨k - 1, by omega⟩
    obtain ⟨e1, e2, e3, e4⟩ := h.steps k (by omega)
    obtain ⟨L, f1, f2, _⟩ := least_fold n (i + 1) _ (Lib.minS best (Lib.minS y (mlJoin (shPs y)))) k (by omega) h.turn (by omega)
    refine ⟨_, by simp only [e8s]; rw [e2, Option.bind_some, e4, Option.bind_some, f1, Option.bind_some], ?_, fun _ => ⟨_, rfl⟩⟩
    simp only [spec_piLeast.l0]
    rw [if_pos (by omega), e1, Option.bind_some, pm_eq, Option.bind_some, pm_eq, Option.bind_some, e3, Option.bind_some, wa1 (by omega), f2, List.foldl_cons, List.foldl_cons, ms_assoc]
theorem least_pure (s : ByteArray) (h : ShT s) (k : Nat) (hk : 3010 ≤ k) : ∃ r, spec_piLeast.f k s = some r ∧ impl_leastShape.f s = some r := by
  obtain ⟨L, f1, f2, f3⟩ := least_fold 4 0 s s k (by omega) h (by omega)
  obtain ⟨r, rfl⟩ := f3 (by omega)
  refine ⟨_, f2, ?_⟩
  unfold impl_leastShape.f
  rw [f1, Option.bind_some]
  rfl
theorem ShT.of {s : ByteArray} (h1 : ∀ r ∈ shPs s, r.size = shW s) (h2 : ∀ r ∈ shPs s, ∀ b ∈ r.data.toList, b = 111 ∨ b = 46) (h3 : 1 ≤ shW s) (h4 : s.size ≤ 200) : ShT s := by
  have h5 := size_rows s h1
  rw [Nat.succ_mul] at h5
  exact ⟨h1, h2, h3, by omega⟩

/-! The text of some cells, in both programs. -/
theorem find_i (l : List Int) (x : Int) (hl : l.length ≤ 2000) : ∀ (d i k : Nat), i + d = l.length → d < k → (∀ j, j < i → l[j]? ≠ some x) → ∃ r : Int, slices_Index_int_int.l0 k l x (l.length : Int) (i : Int) = some r ∧ (0 ≤ r ↔ x ∈ l)
  | 0, i, k, hi, hk, hn => by
    obtain ⟨k, rfl⟩ : ∃ m, k = m + 1 := ⟨k - 1, by omega⟩
    refine ⟨-1, ?_, ⟨fun h => absurd h (by decide), fun h => ?_⟩⟩
    · simp only [slices_Index_int_int.l0]
      rw [if_neg (by omega)]
    · obtain ⟨j, hj⟩ := List.getElem?_of_mem h
      have := (List.getElem?_eq_some_iff.1 hj).1
      exact absurd hj (hn j (by omega))
  | d + 1, i, k, hi, hk, hn => by
    obtain ⟨k, rfl⟩ : ∃ m, k = m + 1 := ⟨k - 1, by omega⟩
    have hlt : i < l.length := by omega
    have er : rd l (i : Int) = l[i] := by simp [rd, hlt]
    simp only [slices_Index_int_int.l0]
    rw [if_pos (by omega), if_pos (by omega), if_pos (by omega), er]
    by_cases e : x = l[i]
    · rw [if_pos e]
      exact ⟨(i : Int), rfl, ⟨fun _ => e ▸ List.getElem_mem hlt, fun _ => by omega⟩⟩
    · rw [if_neg e, wa1 (by omega)]
      exact find_i l x hl d (i + 1) k (by omega) (by omega) (fun j hj => by
        by_cases ej : j = i
        · subst ej
          rw [List.getElem?_eq_getElem hlt]
          intro h
          exact e (Option.some.inj h).symm
        · exact hn j (by omega))
theorem has_I (k : Nat) (l : List Int) (x : Int) (hl : l.length ≤ 2000) (hk : l.length < k) : ∃ b, slices_Contains_int_int.f k l x = some b ∧ (b = true ↔ x ∈ l) := by
  obtain ⟨r, hr, hi⟩ := find_i l x hl l.length 0 k (by omega) hk (fun j hj => absurd hj (Nat.not_lt_zero _))
  refine ⟨decide (r ≥ 0), ?_, by rw [decide_eq_true_eq]; exact hi⟩
  unfold slices_Contains_int_int.f slices_Index_int_int.f
  rw [show (0 : Int) = ((0 : Nat) : Int) from rfl, hr, Option.bind_some]
theorem Mn.uniq {xs : List Int} {a L L' : Int} (h : Mn xs a L) (h' : Mn xs a L') : L = L' := by
  obtain ⟨h1, h2, h3⟩ := h
  obtain ⟨g1, g2, g3⟩ := h'
  have e1 : L ≤ L' := by
    rcases g3 with e | e
    · omega
    · exact h2 _ e
  have e2 : L' ≤ L := by
    rcases h3 with e | e
    · omega
    · exact g2 _ e
  omega
theorem Mx.uniq {xs : List Int} {a L L' : Int} (h : Mx xs a L) (h' : Mx xs a L') : L = L' := by
  obtain ⟨h1, h2, h3⟩ := h
  obtain ⟨g1, g2, g3⟩ := h'
  have e1 : L' ≤ L := by
    rcases g3 with e | e
    · omega
    · exact h2 _ e
  have e2 : L ≤ L' := by
    rcases h3 with e | e
    · omega
    · exact g2 _ e
  omega
theorem mn_if (a x : Int) : mn a x = if a < x then a else x := by unfold mn; split <;> split <;> omega
theorem mx_if (a x : Int) : mx a x = if a > x then a else x := by unfold mx; split <;> split <;> omega
def nI (l : List UInt8) : List Int := l.map fun b => (b.toNat : Int)
theorem nI_str (l : List UInt8) : strOfNums (nI l) = B8 l := by
  apply te_ext
  simp [strOfNums, nI, B8, Function.comp_def]
theorem nI_app (l : List UInt8) (c : UInt8) : nI l ++ [(c.toNat : Int)] = nI (l ++ [c]) := by simp [nI]
def rowsF (P : Nat → Nat → Bool) (l n : Nat) : Nat → Nat → List (List UInt8)
  | _, 0 => []
  | y, d + 1 => tx (P y) 111 l n :: rowsF P l n (y + 1) d
theorem rowsF_len (P : Nat → Nat → Bool) (l n : Nat) : ∀ d y, (rowsF P l n y d).length = d
  | 0, _ => rfl
  | d + 1, y => by rw [rowsF, List.length_cons, rowsF_len P l n d]
theorem rowsF_mem (P : Nat → Nat → Bool) (l n : Nat) : ∀ d y r, r ∈ rowsF P l n y d → ∃ y', r = tx (P y') 111 l n
  | 0, _, _, h => by simp [rowsF] at h
  | d + 1, y, r, h => by
    rw [rowsF] at h
    rcases List.mem_cons.1 h with rfl | h
    · exact ⟨y, rfl⟩
    · exact rowsF_mem P l n d _ r h
theorem tx_bytes (p : Nat → Bool) : ∀ d i, ∀ b ∈ tx p 111 i d, b = 111 ∨ b = 46
  | 0, _, b, h => by simp [tx] at h
  | d + 1, i, b, h => by
    rw [tx] at h
    rcases List.mem_cons.1 h with rfl | h
    · unfold sg; split <;> simp
    · exact tx_bytes p d _ b h
theorem bT_tailF (P : Nat → Nat → Bool) (l n t : Nat) : ∀ d y, t < y → bT P l n t y d = Lib.joinTail [47] (rowsF P l n y d)
  | 0, _, _ => rfl
  | d + 1, y, h => by
    rw [bT, if_pos h, bT_tailF P l n t d (y + 1) (by omega), rowsF]
    simp [Lib.joinTail]
theorem bT_rows (P : Nat → Nat → Bool) (l n t d : Nat) : bT P l n t t (d + 1) = Lib.join (rowsF P l n t (d + 1)) [47] := by
  rw [bT, if_neg (by omega), bT_tailF P l n t d (t + 1) (by omega), rowsF, Lib.join_cons, List.nil_append]
section
variable {w : Nat} (w1 : 1 ≤ w) (hw : w ≤ 1000) {cells : List S45} (hc : ∀ p ∈ cells, InW w p) (hl : cells.length ≤ 1000)
include w1 hw hc hl
theorem gs_l0 (h : Int) : ∀ (d i k : Nat) (a b c e : Int), i + d = cells.length → ∃ L R T B, impl_grid_shape.l0 (k + d + 1) (cells.map (enc w)) (cells.map (enc w)) ((cells.map (enc w)).length : Int) (i : Int) w h a c b e = impl_grid_shape.l1 k (cells.map (enc w)) [] T w h L T R B ∧
    Mn ((cells.drop i).map (·.f0)) a L ∧ Mx ((cells.drop i).map (·.f0)) b R ∧ Mn ((cells.drop i).map (·.f1)) c T ∧ Mx ((cells.drop i).map (·.f1)) e B
  | 0, i, k, a, b, c, e, hi => by
    refine ⟨a, b, c, e, ?_, ?_⟩
    · simp only [impl_grid_shape.l0]
      rw [if_neg (by rw [List.length_map]; omega)]
    · rw [List.drop_eq_nil_of_le (by omega)]
      exact ⟨⟨Int.le_refl _, by simp, .inl rfl⟩, ⟨Int.le_refl _, by simp, .inl rfl⟩, ⟨Int.le_refl _, by simp, .inl rfl⟩, ⟨Int.le_refl _, by simp, .inl rfl⟩⟩
  | d + 1, i, k, a, b, c, e, hi => by
    have hil : i < cells.length := by omega
    obtain ⟨p, hp⟩ : ∃ p, cells[i]? = some p := ⟨_, List.getElem?_eq_getElem hil⟩
    have hpw := hc p (List.mem_of_getElem? hp)
    obtain ⟨p0, pw, q0, qh⟩ := hpw
    obtain ⟨em, ed⟩ := enc_mod (w := w) p0 pw q0
    have er : rd (cells.map (enc w)) (i : Int) = enc w p := by unfold rd; rw [Int.toNat_natCast, List.getD_eq_getElem?_getD, List.getElem?_map, hp]; rfl
    obtain ⟨L, R, T, B, h1, h2, h3, h4, h5⟩ := gs_l0 h d (i + 1) k (if a < p.f0 then a else p.f0) (if b > p.f0 then b else p.f0) (if c < p.f1 then c else p.f1) (if e > p.f1 then e else p.f1) (by omega)
    have edrop : cells.drop i = p :: cells.drop (i + 1) := by rw [List.drop_eq_getElem_cons hil]; rw [List.getElem?_eq_getElem hil] at hp; rw [Option.some.inj hp]
    refine ⟨L, R, T, B, ?_, ?_⟩
    · rw [show k + (d + 1) + 1 = (k + d + 1) + 1 by omega]
      rw [← h1]
      generalize k + d + 1 = m
      simp only [impl_grid_shape.l0]
      rw [if_pos (by rw [List.length_map]; omega), if_pos (by omega), if_pos (by rw [List.length_map]; omega), if_neg (by omega), er, em, ed, w64 p.f1 (by omega) (by omega), mn_if, mn_if, mx_if, mx_if, wa1 (by omega)]
    · rw [edrop, List.map_cons, List.map_cons]
      exact ⟨h2.cons rfl, h3.cons rfl, h4.cons rfl, h5.cons rfl⟩
variable (P : Nat → Nat → Bool) (hP : ∀ y x : Nat, x < w → (P y x = true ↔ (⟨(x : Int), (y : Int)⟩ : S45) ∈ cells))
include hP
theorem gs_l2 (h : Int) (l r t b y : Nat) (hr : r < w) (hy : y ≤ 100000) (rows : List ByteArray) (hro : rows.length ≤ 100000) : ∀ (d x k : Nat) (acc : List UInt8), x + d = r + 1 → 2000 ≤ k → acc.length + d ≤ 1000000 →
    impl_grid_shape.l2 (k + d + 1) (cells.map (enc w)) rows (y : Int) (nI acc) (x : Int) w h l t r b = impl_grid_shape.l1 k (cells.map (enc w)) (rows ++ [B8 (acc ++ tx (P y) 111 x d)]) ((y + 1 : Nat) : Int) w h l t r b
  | 0, x, k, acc, hx, hk, ha => by
    simp only [impl_grid_shape.l2, tx, List.append_nil]
    rw [if_neg (by omega), if_pos (by omega), wa1 (by omega), nI_str]
  | d + 1, x, k, acc, hx, hk, ha => by
    have hm : y * w ≤ 100000 * 1000 := Nat.mul_le_mul hy hw
    have hxw : x < w := by omega
    have e3 : wrap64 ((wrap64 ((y : Int) * (w : Int))) + (x : Int)) = enc w ⟨(x : Int), (y : Int)⟩ := by
      unfold enc
      have e3 : (y : Int) * (w : Int) = ((y * w : Nat) : Int) := by push_cast; rfl
      rw [e3, w64 ((y * w : Nat) : Int) (by omega) (by omega), w64 _ (by omega) (by omega)]
    obtain ⟨v, hv, hvi⟩ := has_I (k + d + 1) (cells.map (enc w)) (enc w ⟨(x : Int), (y : Int)⟩) (by rw [List.length_map]; omega) (by rw [List.length_map]; omega)
    have hvP : v = P y x := by
      rw [Bool.eq_iff_iff, hvi, hP y x hxw]
      constructor
      · intro h
        obtain ⟨p, hp, e⟩ := List.mem_map.1 h
        obtain ⟨p0, pw, _⟩ := hc p hp
        have := enc_inj (w := w) (p := p) (q := ⟨(x : Int), (y : Int)⟩) p0 pw (by simp) (by simp only; omega) e
        exact this ▸ hp
      · intro h; exact List.mem_map.2 ⟨_, h, rfl⟩
    have ih := fun c => gs_l2 h l r t b y hr hy rows hro d (x + 1) k (acc ++ [c]) (by omega) hk (by rw [List.length_append, List.length_singleton]; omega)
    have hnl : (nI acc).length = acc.length := by simp [nI]
    rw [show k + (d + 1) + 1 = (k + d + 1) + 1 by omega]
    generalize hmm : k + d + 1 = m at hv ih ⊢
    simp only [impl_grid_shape.l2]
    rw [if_pos (by omega), e3, hv, Option.bind_some, wa1 (by omega), hvP]
    cases hb : P y x with
    | true =>
      rw [if_pos rfl, if_pos (by omega), show (111 : Int) = ((111 : UInt8).toNat : Int) from rfl, nI_app, ih]
      simp only [tx, hb, sg, if_true, List.append_assoc, List.singleton_append]
    | false =>
      rw [if_neg (by decide), if_pos (by omega), show (46 : Int) = ((46 : UInt8).toNat : Int) from rfl, nI_app, ih]
      simp only [tx, hb, sg, Bool.false_eq_true, if_false, List.append_assoc, List.singleton_append]
theorem gs_l1 (h : Int) (l r t b : Nat) (hr : r < w) (hlr : l ≤ r + 1) (hbb : b ≤ 10000) : ∀ (d y k : Nat) (rows : List ByteArray), y + d = b + 1 → 2000 + (w + 4) * d + 1 ≤ k → rows.length + d ≤ 90000 →
    impl_grid_shape.l1 k (cells.map (enc w)) rows (y : Int) w h l t r b = (strings_Join.f (rows ++ (rowsF P l (r + 1 - l) y d).map B8) (⟨#[47]⟩ : ByteArray)).bind fun u => (impl_leastShape.f u).bind fun v => some v
  | 0, y, k, rows, hy, hk, ha => by
    obtain ⟨k, rfl⟩ : ∃ m, k = m + 1 := ⟨k - 1, by omega⟩
    simp only [impl_grid_shape.l1, rowsF, List.map_nil, List.append_nil]
    rw [if_neg (by omega)]
  | d + 1, y, k, rows, hy, hk, ha => by
    have e1 : (w + 4) * (d + 1) = (w + 4) * d + w + 4 := by rw [Nat.mul_succ]; omega
    obtain ⟨k, rfl⟩ : ∃ m, k = m + (r + 1 - l) + 2 := ⟨k - (r + 1 - l) - 2, by omega⟩
    rw [show k + (r + 1 - l) + 2 = (k + (r + 1 - l) + 1) + 1 by omega]
    have h2 := gs_l2 w1 hw hc hl P hP h l r t b y hr (by omega) rows (by omega) (r + 1 - l) l k [] (by omega) (by omega) (by simp; omega)
    simp only [impl_grid_shape.l1]
    rw [if_pos (by omega), show ([] : List Int) = nI [] from rfl, h2, List.nil_append, gs_l1 h l r t b hr hlr hbb d (y + 1) k _ (by omega) (by omega) (by rw [List.length_append, List.length_singleton]; omega), rowsF, List.map_cons]
    simp
end

/-! The least text of a piece, in both programs. -/
theorem piece_least2 {w h : Nat} (w1 : 1 ≤ w) (w4 : w ≤ 4) (h4 : h ≤ 4) (p : List Int) (hp : p ≠ []) (hlen : p.length ≤ 1000) (hin : ∀ x ∈ p, ∃ j : Nat, x = (j : Int) ∧ j < w * h) (k k2 : Nat) (hk : 60000 ≤ k) (hk2 : 60000 ≤ k2) :
    ∃ u r, spec_piText.f k w p = some u ∧ spec_piLeast.f k u = some r ∧ impl_grid_shape.f k2 w h p = some r := by
  obtain ⟨cells, hcells⟩ : ∃ cells : List S45, cells = p.map fun x => ⟨((x.toNat % w : Nat) : Int), ((x.toNat / w : Nat) : Int)⟩ := ⟨_, rfl⟩
  have hmap : cells.map (enc w) = p := by
    rw [hcells, List.map_map]
    conv => rhs; rw [← List.map_id p]
    apply List.map_congr_left
    intro x hx
    obtain ⟨j, rfl, hj⟩ := hin x hx
    have h0 := Nat.div_add_mod j w
    simp only [Function.comp, enc, id, Int.toNat_natCast]
    have h1 : ((j / w : Nat) : Int) * (w : Int) = ((w * (j / w) : Nat) : Int) := by rw [Nat.mul_comm]; push_cast; rfl
    rw [h1]
    omega
  have hcell : ∀ c ∈ cells, InW w c ∧ c.f1 < (h : Int) := by
    intro c hc
    rw [hcells] at hc
    obtain ⟨x, hx, rfl⟩ := List.mem_map.1 hc
    obtain ⟨j, rfl, hj⟩ := hin x hx
    have h1 := Nat.mod_lt j (show 0 < w by omega)
    have h2 : j / w < h := Nat.div_lt_of_lt_mul hj
    rw [Int.toNat_natCast]
    generalize j % w = a at h1 ⊢
    generalize j / w = b at h2 ⊢
    exact ⟨⟨by simp only; omega, by simp only; omega, by simp only; omega, by simp only; omega⟩, by simp only; omega⟩
  have hc : ∀ c ∈ cells, InW w c := fun c h => (hcell c h).1
  have hcl : cells.length = p.length := by rw [hcells, List.length_map]
  have hne : 0 < cells.length := by rw [hcl]; exact List.length_pos_iff.2 hp
  obtain ⟨P, hPd⟩ : ∃ P : Nat → Nat → Bool, ∀ y x, P y x = decide (enc w ⟨(x : Int), (y : Int)⟩ ∈ p) := ⟨_, fun _ _ => rfl⟩
  have hP : ∀ y x : Nat, x < w → (P y x = true ↔ (⟨(x : Int), (y : Int)⟩ : S45) ∈ cells) := by
    intro y x hx
    rw [hPd, decide_eq_true_eq, ← hmap]
    constructor
    · intro h
      obtain ⟨q, hq, e⟩ := List.mem_map.1 h
      obtain ⟨q0, qw, _⟩ := hc q hq
      have := enc_inj (w := w) (p := q) (q := ⟨(x : Int), (y : Int)⟩) q0 qw (by simp) (by simp only; omega) e
      exact this ▸ hq
    · intro h; exact List.mem_map.2 ⟨_, h, rfl⟩
  obtain ⟨L, R, T, B, e0, hL, hR, hT, hB⟩ := pt_l0 w1 (by omega) hc (by omega) cells.length 0 (k - cells.length - 1) (w : Int) 0 100 0 (by omega)
  obtain ⟨L', R', T', B', g0, hL', hR', hT', hB'⟩ := gs_l0 w1 (by omega) hc (by omega) (h : Int) cells.length 0 (k2 - cells.length - 1) (w : Int) 0 (h : Int) 0 (by omega)
  rw [List.drop_zero] at hL hR hT hB hL' hR' hT' hB'
  obtain rfl := Mn.uniq hL hL'
  obtain rfl := Mx.uniq hR hR'
  obtain rfl := Mx.uniq hB hB'
  obtain ⟨q, hq⟩ := List.exists_mem_of_length_pos hne
  obtain ⟨⟨p0, pw, p1, _⟩, ph⟩ := hcell q hq
  have mL := hL.2.1 q.f0 (List.mem_map.2 ⟨q, hq, rfl⟩)
  have mR := hR.2.1 q.f0 (List.mem_map.2 ⟨q, hq, rfl⟩)
  have mT := hT.2.1 q.f1 (List.mem_map.2 ⟨q, hq, rfl⟩)
  have mT' := hT'.2.1 q.f1 (List.mem_map.2 ⟨q, hq, rfl⟩)
  have mB := hB.2.1 q.f1 (List.mem_map.2 ⟨q, hq, rfl⟩)
  obtain ⟨pl, hpl, epl⟩ : ∃ q ∈ cells, q.f0 = L := by
    rcases hL.2.2 with h | h
    · omega
    · exact List.mem_map.1 h
  obtain ⟨pt, hpt, ept⟩ : ∃ q ∈ cells, q.f1 = T := by
    rcases hT.2.2 with h | h
    · omega
    · exact List.mem_map.1 h
  obtain ⟨pt', hpt', ept'⟩ : ∃ q ∈ cells, q.f1 = T' := by
    rcases hT'.2.2 with h | h
    · omega
    · exact List.mem_map.1 h
  obtain rfl : T = T' := by
    have a1 := hT.2.1 pt'.f1 (List.mem_map.2 ⟨pt', hpt', rfl⟩)
    have a2 := hT'.2.1 pt.f1 (List.mem_map.2 ⟨pt, hpt, rfl⟩)
    omega
  obtain ⟨pr, hpr, epr⟩ : ∃ q ∈ cells, q.f0 = R := by
    rcases hR.2.2 with h | h
    · exact ⟨q, hq, by omega⟩
    · exact List.mem_map.1 h
  obtain ⟨pb, hpb, epb⟩ : ∃ q ∈ cells, q.f1 = B := by
    rcases hB.2.2 with h | h
    · exact ⟨q, hq, by omega⟩
    · exact List.mem_map.1 h
  obtain ⟨⟨l0, lw, _, _⟩, _⟩ := hcell pl hpl
  obtain ⟨⟨r0, rw_, _, _⟩, _⟩ := hcell pr hpr
  obtain ⟨⟨_, _, t0, _⟩, th⟩ := hcell pt hpt
  obtain ⟨⟨_, _, b0, _⟩, bh⟩ := hcell pb hpb
  rw [epl] at l0 lw
  rw [epr] at r0 rw_
  rw [ept] at t0 th
  rw [epb] at b0 bh
  obtain ⟨l, rfl⟩ := Int.eq_ofNat_of_zero_le l0
  obtain ⟨r, rfl⟩ := Int.eq_ofNat_of_zero_le r0
  obtain ⟨t, rfl⟩ := Int.eq_ofNat_of_zero_le t0
  obtain ⟨b, rfl⟩ := Int.eq_ofNat_of_zero_le b0
  have hlr : l ≤ r := by omega
  have htb : t ≤ b := by omega
  obtain ⟨d, hd⟩ : ∃ d, b + 1 - t = d + 1 := ⟨b - t, by omega⟩
  have hfu : (w + 4) * (b + 1 - t) ≤ 8 * 4 := Nat.mul_le_mul (by omega) (by omega)
  have hfu2 : (w + 1) * (b + 1 - t) ≤ 5 * 4 := Nat.mul_le_mul (by omega) (by omega)
  have ht1 := pt_l1 w1 (by omega) hc (by omega) P hP l r t b (by omega) (by omega) (by omega) (b + 1 - t) t (k - cells.length - 1) [] (by omega) (by omega) (by simp only [List.length_nil]; omega)
  have hg1 := gs_l1 w1 (by omega) hc (by omega) P hP (h : Int) l r t b (by omega) (by omega) (by omega) (b + 1 - t) t (k2 - cells.length - 1) [] (by omega) (by omega) (by simp only [List.length_nil]; omega)
  rw [List.nil_append] at ht1 hg1
  obtain ⟨rows, hrows⟩ : ∃ rows, rows = (rowsF P l (r + 1 - l) t (b + 1 - t)).map B8 := ⟨_, rfl⟩
  rw [← hrows] at hg1
  have hrl : rows.length = b + 1 - t := by rw [hrows, List.length_map, rowsF_len]
  have hrm : ∀ q ∈ rows, q.size = r + 1 - l ∧ ∀ x ∈ q.data.toList, x = 111 ∨ x = 46 := by
    intro q hq
    rw [hrows] at hq
    obtain ⟨z, hz, rfl⟩ := List.mem_map.1 hq
    obtain ⟨y, rfl⟩ := rowsF_mem P l (r + 1 - l) _ _ _ hz
    refine ⟨by rw [B8_size, tx_len], fun x hx => tx_bytes (P y) (r + 1 - l) l x ?_⟩
    simpa [B8] using hx
  have hsh := shPs_join rows (List.ne_nil_of_length_pos (by omega)) (fun q hq x hx => by rcases (hrm q hq).2 x hx with rfl | rfl <;> decide)
  have hw : shW (tnJoin rows) = r + 1 - l := by
    have e0 : ∀ u : ByteArray, shW u = (rdOf ByteArray.empty (shPs u) 0).size := fun _ => rfl
    rw [e0, hsh]
    exact (hrm _ (rdOf_mem _ 0 (by omega))).1
  have hS : ShT (tnJoin rows) := by
    refine ⟨?_, ?_, ?_, ?_⟩
    · rw [hsh, hw]; exact fun q hq => (hrm q hq).1
    · rw [hsh]; exact fun q hq => (hrm q hq).2
    · rw [hw]; omega
    · rw [hsh, hw, hrl]
      exact Nat.le_trans (Nat.mul_le_mul (show r + 1 - l ≤ 4 by omega) (show b + 1 - t ≤ 4 by omega)) (by decide)
  have htext : B8 (bT P l (r + 1 - l) t t (b + 1 - t)) = tnJoin rows := by
    apply te_ext
    rw [tnJoin_list, hrows, List.map_map, hd, bT_rows]
    have : (fun x : List UInt8 => (B8 x).data.toList) = id := by funext x; simp [B8]
    show _ = Lib.join (List.map (fun x => (B8 x).data.toList) _) [47]
    rw [this, List.map_id]
    simp [B8]
  have hjoin : strings_Join.f rows (⟨#[47]⟩ : ByteArray) = some (tnJoin rows) := by
    have hb := hS.bounds.2.2
    rw [Lib.size_eq, tnJoin_list] at hb
    unfold strings_Join.f
    rw [if_pos ⟨by omega, by omega, by show (Lib.join (rows.map (·.data.toList)) [47]).length ≤ _; omega⟩]
    rfl
  obtain ⟨v, hv1, hv2⟩ := least_pure (tnJoin rows) hS k (by omega)
  refine ⟨tnJoin rows, v, ?_, hv1, ?_⟩
  · unfold spec_piText.f
    rw [← hmap]
    rw [show k - cells.length - 1 + cells.length + 1 = k by omega, show ((0 : Nat) : Int) = 0 from rfl] at e0
    rw [e0, ← htext]
    exact ht1
  · unfold impl_grid_shape.f
    rw [← hmap]
    rw [show k2 - cells.length - 1 + cells.length + 1 = k2 by omega, show ((0 : Nat) : Int) = 0 from rfl] at g0
    rw [g0, hg1, hjoin, Option.bind_some, hv2, Option.bind_some]
theorem piece_least {w h : Nat} (w1 : 1 ≤ w) (w4 : w ≤ 4) (h4 : h ≤ 4) (p : List Int) (hp : p ≠ []) (hlen : p.length ≤ 1000) (hin : ∀ x ∈ p, ∃ j : Nat, x = (j : Int) ∧ j < w * h) (k : Nat) (hk : 60000 ≤ k) :
    ∃ u r, spec_piText.f k w p = some u ∧ spec_piLeast.f k u = some r ∧ impl_grid_shape.f k w h p = some r := piece_least2 w1 w4 h4 p hp hlen hin k k hk hk

end Shp

section
variable {w h : Nat} (w1 : 1 ≤ w) (w4 : w ≤ 4) (h4 : h ≤ 4) (ps : List (List Int)) (hps : ∀ p ∈ ps, p ≠ [] ∧ p.length ≤ 1000 ∧ ∀ x ∈ p, ∃ j : Nat, x = (j : Int) ∧ j < w * h) (hl : ps.length ≤ 100) (k2 : Nat) (hk2 : 60000 ≤ k2)
include w1 w4 h4 hps hl hk2
theorem ae_rest (first : ByteArray) (l2 l3 : List Int) : ∀ (d i k : Nat), 1 ≤ i → i + d = ps.length → 60010 + d ≤ k → ∃ b, spec_AreEqualPieces.l0 k first ps (ps.length : Int) (i : Int) w h l2 l3 = some (!b, true) ∧ aeAny k2 w h first (ps.drop i) = some b
  | 0, i, k, h1, hi, hk => by
    obtain ⟨k, rfl⟩ : ∃ m, k = m + 1 := ⟨k - 1, by omega⟩
    refine ⟨false, ?_, ?_⟩
    · simp only [spec_AreEqualPieces.l0]
      rw [if_neg (by omega)]
      rfl
    · rw [List.drop_eq_nil_of_le (by omega)]; rfl
  | d + 1, i, k, h1, hi, hk => by
    obtain ⟨k, rfl⟩ : ∃ m, k = m + 1 := ⟨k - 1, by omega⟩
    have hlt : i < ps.length := by omega
    obtain ⟨p, hp⟩ : ∃ p, ps[i] = p := ⟨_, rfl⟩
    have hpm : p ∈ ps := hp ▸ List.getElem_mem hlt
    obtain ⟨p1, p2, p3⟩ := hps p hpm
    have er : rd_L3 ps (i : Int) = p := by simp [rd_L3, hlt, hp]
    obtain ⟨u, r, e1, e2, e3⟩ := Shp.piece_least2 w1 w4 h4 p p1 p2 p3 k k2 (by omega) hk2
    rw [List.drop_eq_getElem_cons hlt, hp]
    simp only [spec_AreEqualPieces.l0, aeAny]
    rw [if_pos (by omega), if_pos (by omega), if_pos (by omega), er, e1, Option.bind_some, e2, Option.bind_some, if_pos (by omega), e3, Option.bind_some]
    by_cases c : r.toList = first.toList
    · have hr : r = first := by
        apply Shp.te_ext
        rw [Lib.toList_data, Lib.toList_data] at c
        exact c
      rw [if_pos c, if_pos c, hr, Shp.wa1 (by omega)]
      exact ae_rest first l2 l3 d (i + 1) k (by omega) (by omega) (by omega)
    · rw [if_neg c, if_neg c]
      exact ⟨true, rfl, rfl⟩
theorem ae_all (hn : 0 < ps.length) (l2 l3 : List Int) (k : Nat) (hk : 60200 ≤ k) : ∃ first b, impl_grid_shape.f k2 w h (rd_L3 ps 0) = some first ∧ spec_AreEqualPieces.l0 k (⟨#[]⟩ : ByteArray) ps (ps.length : Int) 0 w h l2 l3 = some (!b, true) ∧ aeAny k2 w h first ps = some b := by
  obtain ⟨k, rfl⟩ : ∃ m, k = m + 1 := ⟨k - 1, by omega⟩
  obtain ⟨p, hp⟩ : ∃ p, ps[0] = p := ⟨_, rfl⟩
  have hpm : p ∈ ps := hp ▸ List.getElem_mem hn
  obtain ⟨p1, p2, p3⟩ := hps p hpm
  have er : rd_L3 ps 0 = p := by
    have : rd_L3 ps ((0 : Nat) : Int) = p := by simp [rd_L3, hn, hp]
    exact this
  obtain ⟨u, r, e1, e2, e3⟩ := Shp.piece_least2 w1 w4 h4 p p1 p2 p3 k k2 (by omega) hk2
  obtain ⟨b, g1, g2⟩ := ae_rest w1 w4 h4 ps hps hl k2 hk2 r l2 l3 (ps.length - 1) 1 k (by omega) (by omega) (by omega)
  refine ⟨r, b, by rw [er]; exact e3, ?_, ?_⟩
  · simp only [spec_AreEqualPieces.l0]
    rw [if_pos (by omega), if_pos (by omega), if_pos (by omega), er, e1, Option.bind_some, e2, Option.bind_some, if_neg (by omega), show wrap64 (0 + 1) = ((1 : Nat) : Int) from Shp.w64 _ (by decide) (by decide)]
    exact g1
  · have hd : ps = p :: ps.drop 1 := by
      have := List.drop_eq_getElem_cons hn
      rw [List.drop_zero, hp] at this
      exact this
    rw [hd, aeAny, e3, Option.bind_some, if_pos rfl]
    exact g2
end
theorem AreEqualPieces_same (w h : Int) (l2 l3 : List Int) (h2 : l2.length ≤ 1000000) (h3 : l3.length ≤ 1000000) (k : Nat) (hk : l2.length + l3.length + 70000 ≤ k) : ∃ t ok, spec_AreEqualPieces.f k w h l2 l3 = some (t, ok) ∧ impl_AreEqualPieces.f k w h l2 l3 = some (t, ok) := by
  obtain ⟨b, q, r, i⟩ := fig_same w h l2 l3 (by omega) (by omega) k (by omega)
  unfold spec_AreEqualPieces.f impl_AreEqualPieces.f impl_PiecesOf.f
  rw [q, r, Option.bind_some, Option.bind_some]
  cases b with
  | false =>
    rw [if_neg (by decide), if_neg (by decide), Option.bind_some]
    exact ⟨false, false, rfl, rfl⟩
  | true =>
    have F := i.1 rfl
    rw [if_pos rfl, if_pos rfl]
    obtain ⟨wn, hn, rfl, rfl, w1, w4, h1, h4⟩ := F.grid
    have hm := mask_62 w1 w4 h1 h4 F
    have hE := edges_ok w1 w4 h1 h4
    obtain ⟨s1, s2, s3, s4⟩ := F.small
    have hnn : wn * hn ≤ 16 := Nat.mul_le_mul w4 h4
    have hn1 : 1 * 1 ≤ wn * hn := Nat.mul_le_mul w1 h1
    have f0 : fin (Open (maskN wn hn l2 l3) (refEdges wn hn 0 hn)) 0 ≤ 0 := (fin_lab _).2 0
    obtain ⟨f, hf⟩ : ∃ f, fin (Open (maskN wn hn l2 l3) (refEdges wn hn 0 hn)) = f := ⟨_, rfl⟩
    rw [hf] at f0
    have hlen : (piecesFrom f (wn * hn) 0 (wn * hn)).length ≤ 100 := Nat.le_trans (pieces_length _ _ _ _) (by omega)
    have hpos : 0 < (piecesFrom f (wn * hn) 0 (wn * hn)).length := by
      apply List.length_pos_of_mem (a := ownFrom f 0 0 (wn * hn))
      rw [pieces_mem]
      refine ⟨0, Nat.le_refl _, by omega, ?_, rfl⟩
      intro e
      have : ((0 : Nat) : Int) ∈ ownFrom f 0 0 (wn * hn) := mem_own.2 ⟨0, rfl, Nat.le_refl _, by omega, by omega⟩
      rw [e] at this
      cases this
    obtain ⟨first, b, g1, g2, g3⟩ := ae_all w1 w4 h4 (piecesFrom f (wn * hn) 0 (wn * hn)) (fun p hp => by
      obtain ⟨a, _, _, hne, rfl⟩ := (pieces_mem _ _).1 hp
      refine ⟨hne, Nat.le_trans (ownFrom_length _ _ _ _) (by omega), fun x hx => ?_⟩
      obtain ⟨j, rfl, _, hj, _⟩ := mem_own.1 hx
      exact ⟨j, rfl, by omega⟩) hlen k (by omega) hpos l2 l3 k (by omega)
    refine ⟨!b, true, ?_, ?_⟩
    · rw [piPieces_f w1 w4 h1 h4 F (by omega) (by omega) k (by omega), Option.bind_some, hf]
      exact g2
    · simp only [impl_Figure_grid.f, Option.bind_some, impl_grid_pieces.f]
      rw [set_f F (by omega) (by omega) k (by omega), Option.bind_some, regions_f w1 w4 h1 h4 _ (by omega) k (by omega), Option.bind_some, Option.bind_some, open_same hE, hf, Option.bind_some]
      simp only [if_true]
      rw [if_pos hpos, g1, Option.bind_some, g3, Option.bind_some]
theorem AreEqualPieces_pure (w h : Int) (l2 l3 : List Int) (F : FigW w h l2 l3) : ∃ ks ki t ok, spec_AreEqualPieces.f ks w h l2 l3 = some (t, ok) ∧ impl_AreEqualPieces.f ki w h l2 l3 = some (t, ok) := by
  obtain ⟨t, ok, e1, e2⟩ := AreEqualPieces_same w h l2 l3 F.n2 F.n3 (l2.length + l3.length + 70000) (Nat.le_refl _)
  exact ⟨_, _, t, ok, e1, e2⟩

/-! The tables that the row lists, and a start that fits. -/
abbrev LAID : List (String × DataW Unit) := [("unicode/utf8.acceptRanges", Rows.laid_unicode_utf8_acceptRanges), ("unicode/utf8.first", Rows.laid_unicode_utf8_first)]
theorem tz_of_shape {W : World} (h : W.ShapedOpen Tryd.prog) : TzTab W :=
  Go.Proofs.cell_of_shapedOpen_int (zero := #[.int .i64 0]) (t := 3) h (of_decide_eq_true (by kernel_rfl)) (by kernel_rfl) rfl (by kernel_rfl) (by kernel_rfl) Tryd.underlying3
def litOne : DataW Unit → List Value
  | .lit (.int k n) => [Value.int k n]
  | _ => []
def litVals : DataW Unit → Array Value
  | .agg l => (l.flatMap fun d => match d with
    | .agg m => m.flatMap litOne
    | x => litOne x).toArray
  | _ => #[]
def putVals (d : DataW Unit) : Obj → Obj
  | .cells _ t frozen => .cells (litVals d) t frozen
  | o => o
noncomputable def laidWorld (os : Os) : World :=
  { World.holding Tryd.prog os ⟨#[], #[], []⟩ with heap := ((World.holding Tryd.prog os ⟨#[], #[], []⟩).heap.modify 2 (putVals Rows.laid_unicode_utf8_acceptRanges)).modify 1 (putVals Rows.laid_unicode_utf8_first) }
theorem laid_met (os : Os) (args : Array Value) : laidMet Tryd.prog LAID ((laidWorld os).forCall (fun _ _ => 0) ⟨#[], args, []⟩).memory :=
  (LaidIn.of_run [2, 1] 8 (by kernel_rfl) (by kernel_rfl) (by kernel_rfl) (by kernel_rfl)).met
theorem own : ownKnob Tryd.prog.godebug = none := by kernel_rfl
theorem laidOut : laidOutB Tryd.prog = true := by kernel_rfl

theorem AreEqualPieces_call {W : World} (hT : TzTab W) {a0 a1 : Int} {A2 : Option Addr} {c2 : Nat} {l2 : List Int} {A3 : Option Addr} {c3 : Nat} {l3 : List Int} (F0 : FigIn W [.int .i64 a0, .int .i64 a1, .slice A2 l2.length c2, .slice A3 l3.length c3] a0 a1 A2 c2 l2 A3 c3 l3) :
    Calls Tryd.prog 7 #[.agg #[.int .i64 a0, .int .i64 a1, .slice A2 l2.length c2, .slice A3 l3.length c3]] W fun e W' => e = .returned (.bool true) ∧ Below W.heap.size W W' := by
  obtain ⟨z0, hsz0, hi0, hj0⟩ := sz_fig a0 a1 l2 l3 1000000 (by omega) (by omega) F0.hm2 F0.hm3
  by_cases hneg0 : 0 ≤ z0
  · have e0 := hi0 hneg0
    obtain ⟨ks, ki, r0, r1, hs, hp⟩ := AreEqualPieces_pure a0 a1 l2 l3 (F0.w (by omega) (by omega))
    exact law_AreEqualPieces ks ki r0 r1 z0 a0 a1 A2 c2 l2 A3 c3 l3 W hT F0.hr2 F0.hr3 F0.hc2 F0.hc3 hsz0 (fun _ => ⟨by omega, by omega⟩) (fun _ => hs) (fun _ => hp)
  · exact law_AreEqualPieces 0 0 false false z0 a0 a1 A2 c2 l2 A3 c3 l3 W hT F0.hr2 F0.hr3 F0.hc2 F0.hc3 hsz0 (fun h0 => absurd h0 hneg0) (fun h0 => absurd h0 hneg0) (fun h0 => absurd h0 hneg0)
set_option maxRecDepth 100000 in
theorem lifted (os : Os) (started : os.Started) (H : Type) (enc : TypeId × Value → H) (F : Stop.Interp) :
    ReturnsInHanded {} Tryd.checked os 7 .any ((OpenSpec.ofChange Rows.fnExactAreEqualPiecesSpec).preRow enc Tryd.prog Tryd.f7 Rows.fnExactAreEqualPiecesRow.domain false LAID) (((OpenSpec.ofChange Rows.fnExactAreEqualPiecesSpec).at F).post enc Tryd.prog Tryd.f7 false true false false) := by
  refine returnsInHanded_of_row (C := Tryd.checked) (s := OpenSpec.ofChange Rows.fnExactAreEqualPiecesSpec) own started (by kernel_rfl) Tryd.func7
    (witness_row_at (enc := enc) (C := Tryd.checked) false (laidWorld os) #[.agg #[.int .i64 0, .int .i64 0, .slice none 0 0, .slice none 0 0]] rfl (by kernel_rfl) (by kernel_rfl) (by kernel_rfl)
      (OpenSpec.preRow_of_B rfl 8 (by kernel_rfl) (by kernel_rfl) (laid_met os _))) ?_
  intro W base args ds gs before hval0 hW _ _ hsz0 hL hsh _
  have hval : ∀ (j : Nat) t v, Tryd.f7.params[j]? = some t → args[j]? = some v → Value.okWide Tryd.prog W .any base t v := hval0
  have hW' := hW
  obtain ⟨p, q, hA0, hV, rfl, hfz, hnd⟩ := hW
  have hA : DataW.TrodAll enc Tryd.prog W 0 (fun _ => true) true Tryd.f7.params.toList args.toList ds p := hA0
  rw [Tryd.params7] at hA hval
  obtain ⟨v0, vs0, d0, ds0, p0, q0, hargs, rfl, rfl, h0, t0⟩ := trodAll_cons hA
  obtain ⟨rfl, rfl, rfl⟩ := trodAll_nil t0
  obtain rfl : args = #[v0] := by cases args; simp_all
  obtain ⟨rfl, rfl⟩ := trodVars_none hV
  have kk0 := h0
  have lt0 : ∀ x ∈ p0, x.block < W.heap.size := by obtain ⟨m, hm⟩ := kk0; exact DataW.trod_lt m _ _ _ hm
  obtain ⟨a0, a1, A2, c2, l2, A3, c3, l3, rfl, F0⟩ := open_figarg (hval 0 27 v0 rfl rfl) h0
  clear hA0 hval0 hsz0
  refine (AreEqualPieces_call (tz_of_shape hsh)  F0).mono fun e W' ⟨he, bel⟩ => ?_
  subst he
  exact ⟨_, rfl, _, _, _, [], _, [], hW', trodAll_mk1 (shut_bool Tryd.underlying4 _), (trodAll_cons_mk (Below.trod laidOut (by kernel_rfl) (of_decide_eq_true (by kernel_rfl)) kk0 bel lt0) trodAll_mk0), rfl, bel.frame _, fun h => by cases h⟩
theorem over : Rows.fnExactAreEqualPiecesRow.holds Tryd.pinned (OpenSpec.ofChange Rows.fnExactAreEqualPiecesSpec) :=
  OpenClaim.holds_of_wide 7 Tryd.f7 rfl rfl rfl rfl rfl rfl rfl ⟨rfl, rfl, rfl, rfl, rfl⟩ rfl rfl rfl rfl rfl (by kernel_rfl) Tryd.func7 (by kernel_rfl)
    (of_decide_eq_true (by kernel_rfl)) (by unfold Func.isWrapper; first | (rw [if_pos (by decide +kernel)]; kernel_rfl) | (rw [if_neg (by decide +kernel)]; exact ⟨rfl, rfl⟩))
    (fun os started H enc _ => lifted os started H enc (fun _ _ _ => 0))
theorem proved : Rows.FnExactAreEqualPiecesCardSaid :=
  Claim7.holds_tied_plain_at .later [] [.data, .pinned] true (true, "7acb72b89605b83a3a829b0a1b3267de01cf6e9a9e9f58503a4215a8e28491dc") false
    over (fun _ h => by cases h) (by kernel_rfl) (fun _ h => by cases h) fnExactAreEqualPieces_row_tie rfl ⟨rfl, rfl⟩ (by kernel_rfl) rfl
    (fun f fn hf hfn => by
      obtain rfl : f = 7 := Option.some.inj ((show Tryd.prog.funcNamed "loop.example/g01233/laws.FnExactAreEqualPieces" = some 7 by kernel_rfl).symm.trans hf) |>.symm
      obtain rfl : fn = Tryd.f7 := (Option.some.inj (Tryd.func7.symm.trans hfn)).symm
      exact ⟨by kernel_rfl, fun j t ht => by
        rw [Tryd.params7] at ht
        rcases j with _ | j
        · have e : t = 27 := by simpa using ht.symm
          subst e
          exact (show Tryd.prog.wantsStandIn 27 = false by kernel_rfl)
        simp at ht⟩)
    (by kernel_rfl)

end Go.Proofs.YtfkbjflndkjlnaaDoor.P
namespace Go.Proofs.YtfkbjflndkjlnaaDoor
/-- The row, under a short name, for the claim. -/
theorem fnExactAreEqualPieces_holds : Rows.FnExactAreEqualPiecesCardSaid := P.proved
#print axioms fnExactAreEqualPieces_holds
end Go.Proofs.YtfkbjflndkjlnaaDoor
