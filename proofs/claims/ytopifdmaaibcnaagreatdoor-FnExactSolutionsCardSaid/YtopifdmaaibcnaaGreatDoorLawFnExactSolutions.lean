/- For every puzzle that can be read the law FnExactSolutions returns true and leaves its argument as it was: the program's Solutions tells what the reference's tells, and what it hands back is its own. Conditions: none beyond the row's own; the table that it reads is tied to the program's text. -/
import Derived.Test.YtopifdmaaibcnaaGreatDoorRows
import Derived.Test.YtopifdmaaibcnaaGreatDoorHd
import Derived.Test.YtopifdmaaibcnaaGreatDoorHc6
import Derived.Test.YtopifdmaaibcnaaGreatDoorHc8
import Derived.Test.YtopifdmaaibcnaaGreatDoorHc9
import Derived.Test.YtopifdmaaibcnaaGreatDoorCards
import Derived.Test.YtopifdmaaibcnaaGreatDoorTie
import Derived.Test.YtopifdmaaibcnaaGreatDoorPz
import Derived.WalkKit
import Derived.ProofKit
import Derived.OpenShut
import Derived.ShutString
import Derived.ChangeOld
import Derived.Below
import Derived.SizedLaws
import Derived.Lib.SmallJoins
import Derived.Deep.LoopGhost
import Derived.Deep.Draws
import Derived.Deep.RegionHeld3
import Derived.Lib.LaidIn
import Derived.Lib.LaidTab
import Derived.Deep.DeepHandedRow
import Derived.SevenTiedAt
namespace Go.Proofs.YtopifdmaaibcnaaGreatDoor.H
open Go.ChangeShapes Go.WideShapes Go.ChangeAt Go.RowKit Go.Joins
open Go.ChangeMaps (open_string shut_string)
open Go.Proofs.YtopifdmaaibcnaaGreatDoorW.PrintWords Go.Proofs.YtopifdmaaibcnaaGreatDoorW.PrintLast Go.Proofs.YtopifdmaaibcnaaGreatDoorW.PrintMore
attribute [local go_sem] max2_int min2_int max_two min_two max_three min_three max_four min_four
set_option linter.unusedVariables false
set_option linter.unusedSimpArgs false
set_option linter.unnecessarySimpa false
set_option maxHeartbeats 8000000 in
set_option maxRecDepth 100000 in
theorem topuzzle_full (a0 a1 : Int) (A2 : Option Addr) (c2 : Nat) (l2 : List Int) (A3 : Option Addr) (c3 : Nat) (l3 : List Int) (d4 : Int) (d5 : Bool) (d6 : Int) (w : World)
    (hr2 : Kd.C (Kd.int .i64) w A2 l2.length l2) (hr3 : Kd.C (Kd.int .i64) w A3 l3.length l3) (h2 : l2.length ≤ 1000000) (h3 : l3.length ≤ 1000000) :
    Calls Tryz.prog 12 #[.agg #[.int .i64 a0, .int .i64 a1, .slice A2 l2.length c2, .slice A3 l3.length c3, .int .i64 d4, .bool d5, .int .i64 d6], .bool false] w fun e w' => ∃ v2 v3, e = .returned (.agg #[.int .i64 a0, .int .i64 a1, v2, v3, .int .i64 d4, .bool d5, .int .i64 d6]) ∧ SpareFig w.heap.size w' v2 v3 l2 l3 ∧ Below w.heap.size w w' := by
  have C := fun W hr2 hr3 => tofig_full a0 a1 A2 c2 l2 A3 c3 l3 W hr2 hr3 h2 h3
  have HR2 := Aside0.mk hr2
  have HR3 := Aside0.mk hr3
  have hu := Tryz.underlying26
  have hu2 := Tryz.underlying32
  have hu3 := Tryz.underlying24
  have hu4 := Tryz.underlying30
  clear hr2 hr3
  go_enter Tryz.func12, Tryz.ntmps12
  go_wp2_with fail
  refine (C _ (Kd.C_alloc (Kd.C_alloc (Kd.C_alloc HR2.out _) _) _) (Kd.C_alloc (Kd.C_alloc (Kd.C_alloc HR3.out _) _) _)).mono ?_
  rintro e w1 ⟨v2, v3, rfl, ⟨⟨b2, b3, rfl, rfl, hne, s2, s3⟩⟩, hb⟩
  have hz2 : w.heap.size + 3 ≤ b2 := by have := s2.ge; simp at this; omega
  have hz3 : w.heap.size + 3 ≤ b3 := by have := s3.ge; simp at this; omega
  have B0 : w1.heap[w.heap.size]? = _ := (hb.block _ (by simp; try omega)).trans (heap_at3 _ _ _ _).1
  have B1 : w1.heap[w.heap.size + 1]? = _ := (hb.block _ (by simp; try omega)).trans (heap_at3 _ _ _ _).2.1
  have B2 : w1.heap[w.heap.size + 1 + 1]? = _ := (hb.block _ (by simp; try omega)).trans (heap_at3 _ _ _ _).2.2
  have k0_4 : w1.cell? ⟨w.heap.size, 4, none⟩ = some (.int .i64 d4) := (blk_cell B0 4).trans rfl
  have k0_5 : w1.cell? ⟨w.heap.size, 5, none⟩ = some (.bool d5) := (blk_cell B0 5).trans rfl
  have k0_6 : w1.cell? ⟨w.heap.size, 6, none⟩ = some (.int .i64 d6) := (blk_cell B0 6).trans rfl
  have k2_0 : w1.cell? ⟨w.heap.size + 1 + 1, 0, none⟩ = some (.int .i64 0) := (blk_cell B2 0).trans rfl
  have f2_0 : w1.frozen? ⟨w.heap.size + 1 + 1, 0, none⟩ = false := blk_frozen B2 0
  have k1_0 : w1.cell? ⟨w.heap.size + 1, 0, none⟩ = some (.int .i64 0) := (blk_cell B1 0).trans rfl
  have f1_0 : w1.frozen? ⟨w.heap.size + 1, 0, none⟩ = false := blk_frozen B1 0
  have k2_1 : w1.cell? ⟨w.heap.size + 1 + 1, 1, none⟩ = some (.int .i64 0) := (blk_cell B2 1).trans rfl
  have f2_1 : w1.frozen? ⟨w.heap.size + 1 + 1, 1, none⟩ = false := blk_frozen B2 1
  have k1_1 : w1.cell? ⟨w.heap.size + 1, 1, none⟩ = some (.int .i64 0) := (blk_cell B1 1).trans rfl
  have f1_1 : w1.frozen? ⟨w.heap.size + 1, 1, none⟩ = false := blk_frozen B1 1
  have k2_2 : w1.cell? ⟨w.heap.size + 1 + 1, 2, none⟩ = some (.slice none 0 0) := (blk_cell B2 2).trans rfl
  have f2_2 : w1.frozen? ⟨w.heap.size + 1 + 1, 2, none⟩ = false := blk_frozen B2 2
  have k1_2 : w1.cell? ⟨w.heap.size + 1, 2, none⟩ = some (.slice none 0 0) := (blk_cell B1 2).trans rfl
  have f1_2 : w1.frozen? ⟨w.heap.size + 1, 2, none⟩ = false := blk_frozen B1 2
  have k2_3 : w1.cell? ⟨w.heap.size + 1 + 1, 3, none⟩ = some (.slice none 0 0) := (blk_cell B2 3).trans rfl
  have f2_3 : w1.frozen? ⟨w.heap.size + 1 + 1, 3, none⟩ = false := blk_frozen B2 3
  have k1_3 : w1.cell? ⟨w.heap.size + 1, 3, none⟩ = some (.slice none 0 0) := (blk_cell B1 3).trans rfl
  have f1_3 : w1.frozen? ⟨w.heap.size + 1, 3, none⟩ = false := blk_frozen B1 3
  have k2_4 : w1.cell? ⟨w.heap.size + 1 + 1, 4, none⟩ = some (.int .i64 0) := (blk_cell B2 4).trans rfl
  have f2_4 : w1.frozen? ⟨w.heap.size + 1 + 1, 4, none⟩ = false := blk_frozen B2 4
  have k1_4 : w1.cell? ⟨w.heap.size + 1, 4, none⟩ = some (.int .i64 0) := (blk_cell B1 4).trans rfl
  have f1_4 : w1.frozen? ⟨w.heap.size + 1, 4, none⟩ = false := blk_frozen B1 4
  have k2_5 : w1.cell? ⟨w.heap.size + 1 + 1, 5, none⟩ = some (.bool false) := (blk_cell B2 5).trans rfl
  have f2_5 : w1.frozen? ⟨w.heap.size + 1 + 1, 5, none⟩ = false := blk_frozen B2 5
  have k1_5 : w1.cell? ⟨w.heap.size + 1, 5, none⟩ = some (.bool false) := (blk_cell B1 5).trans rfl
  have f1_5 : w1.frozen? ⟨w.heap.size + 1, 5, none⟩ = false := blk_frozen B1 5
  have k2_6 : w1.cell? ⟨w.heap.size + 1 + 1, 6, none⟩ = some (.int .i64 0) := (blk_cell B2 6).trans rfl
  have f2_6 : w1.frozen? ⟨w.heap.size + 1 + 1, 6, none⟩ = false := blk_frozen B2 6
  have k1_6 : w1.cell? ⟨w.heap.size + 1, 6, none⟩ = some (.int .i64 0) := (blk_cell B1 6).trans rfl
  have f1_6 : w1.frozen? ⟨w.heap.size + 1, 6, none⟩ = false := blk_frozen B1 6
  have X1 := Aside0.mk B1
  have X2 := Aside0.mk B2
  have S2 := Aside0.mk s2
  have S3 := Aside0.mk s3
  have HB := Aside0.mk (below_step (below_alloc (below_alloc (below_alloc (Below.refl w.heap.size w) _) _) _) hb)
  have HN := Aside0.mk hne
  clear B0 B1 B2 s2 s3 hb hne
  go_wp2_with fail
  refine bodyPost_ret (results_cell_row rfl _ _ (w.heap.size + 1) 32 #[.int .i64 a0, .int .i64 a1, .slice (some ⟨b2, 0, none⟩) l2.length (l2.length + room l2.length), .slice (some ⟨b3, 0, none⟩) l3.length (l3.length + room l3.length), .int .i64 d4, .bool d5, .int .i64 d6] (0, 0) _ rfl ?_ Tryz.underlying32 rfl (by kernel_rfl)) rfl ?_
  · refine blk_put (cs := #[.int .i64 a0, .int .i64 a1, .slice (some ⟨b2, 0, none⟩) l2.length (l2.length + room l2.length), .slice (some ⟨b3, 0, none⟩) l3.length (l3.length + room l3.length), .int .i64 d4, .bool d5, .int .i64 0]) ?_ 6 _ rfl
    refine blk_put (cs := #[.int .i64 a0, .int .i64 a1, .slice (some ⟨b2, 0, none⟩) l2.length (l2.length + room l2.length), .slice (some ⟨b3, 0, none⟩) l3.length (l3.length + room l3.length), .int .i64 d4, .bool false, .int .i64 0]) ?_ 5 _ rfl
    refine blk_put (cs := #[.int .i64 a0, .int .i64 a1, .slice (some ⟨b2, 0, none⟩) l2.length (l2.length + room l2.length), .slice (some ⟨b3, 0, none⟩) l3.length (l3.length + room l3.length), .int .i64 0, .bool false, .int .i64 0]) ?_ 4 _ rfl
    refine blk_put (cs := #[.int .i64 a0, .int .i64 a1, .slice (some ⟨b2, 0, none⟩) l2.length (l2.length + room l2.length), .slice none 0 0, .int .i64 0, .bool false, .int .i64 0]) ?_ 3 _ rfl
    refine blk_put (cs := #[.int .i64 a0, .int .i64 a1, .slice none 0 0, .slice none 0 0, .int .i64 0, .bool false, .int .i64 0]) ?_ 2 _ rfl
    refine blk_put (cs := #[.int .i64 a0, .int .i64 0, .slice none 0 0, .slice none 0 0, .int .i64 0, .bool false, .int .i64 0]) ?_ 1 _ rfl
    refine blk_put (cs := #[.int .i64 0, .int .i64 0, .slice none 0 0, .slice none 0 0, .int .i64 0, .bool false, .int .i64 0]) ?_ 0 _ rfl
    refine blk_far ?_ (p := ⟨w.heap.size + 1 + 1, 6, none⟩) (by simp) _
    refine blk_far ?_ (p := ⟨w.heap.size + 1 + 1, 5, none⟩) (by simp) _
    refine blk_far ?_ (p := ⟨w.heap.size + 1 + 1, 4, none⟩) (by simp) _
    refine blk_far ?_ (p := ⟨w.heap.size + 1 + 1, 3, none⟩) (by simp) _
    refine blk_far ?_ (p := ⟨w.heap.size + 1 + 1, 2, none⟩) (by simp) _
    refine blk_far ?_ (p := ⟨w.heap.size + 1 + 1, 1, none⟩) (by simp) _
    refine blk_far ?_ (p := ⟨w.heap.size + 1 + 1, 0, none⟩) (by simp) _
    exact X1.out
  · refine ⟨_, _, rfl, ⟨b2, b3, rfl, rfl, HN.out, ⟨by omega, (Spare.set (Spare.set (Spare.set (Spare.set (Spare.set (Spare.set (Spare.set (Spare.set (Spare.set (Spare.set (Spare.set (Spare.set (Spare.set (Spare.set S2.out (p := ⟨w.heap.size + 1 + 1, 0, none⟩) (by simp; omega) _) (p := ⟨w.heap.size + 1 + 1, 1, none⟩) (by simp; omega) _) (p := ⟨w.heap.size + 1 + 1, 2, none⟩) (by simp; omega) _) (p := ⟨w.heap.size + 1 + 1, 3, none⟩) (by simp; omega) _) (p := ⟨w.heap.size + 1 + 1, 4, none⟩) (by simp; omega) _) (p := ⟨w.heap.size + 1 + 1, 5, none⟩) (by simp; omega) _) (p := ⟨w.heap.size + 1 + 1, 6, none⟩) (by simp; omega) _) (p := ⟨w.heap.size + 1, 0, none⟩) (by simp; omega) _) (p := ⟨w.heap.size + 1, 1, none⟩) (by simp; omega) _) (p := ⟨w.heap.size + 1, 2, none⟩) (by simp; omega) _) (p := ⟨w.heap.size + 1, 3, none⟩) (by simp; omega) _) (p := ⟨w.heap.size + 1, 4, none⟩) (by simp; omega) _) (p := ⟨w.heap.size + 1, 5, none⟩) (by simp; omega) _) (p := ⟨w.heap.size + 1, 6, none⟩) (by simp; omega) _).blk⟩, ⟨by omega, (Spare.set (Spare.set (Spare.set (Spare.set (Spare.set (Spare.set (Spare.set (Spare.set (Spare.set (Spare.set (Spare.set (Spare.set (Spare.set (Spare.set S3.out (p := ⟨w.heap.size + 1 + 1, 0, none⟩) (by simp; omega) _) (p := ⟨w.heap.size + 1 + 1, 1, none⟩) (by simp; omega) _) (p := ⟨w.heap.size + 1 + 1, 2, none⟩) (by simp; omega) _) (p := ⟨w.heap.size + 1 + 1, 3, none⟩) (by simp; omega) _) (p := ⟨w.heap.size + 1 + 1, 4, none⟩) (by simp; omega) _) (p := ⟨w.heap.size + 1 + 1, 5, none⟩) (by simp; omega) _) (p := ⟨w.heap.size + 1 + 1, 6, none⟩) (by simp; omega) _) (p := ⟨w.heap.size + 1, 0, none⟩) (by simp; omega) _) (p := ⟨w.heap.size + 1, 1, none⟩) (by simp; omega) _) (p := ⟨w.heap.size + 1, 2, none⟩) (by simp; omega) _) (p := ⟨w.heap.size + 1, 3, none⟩) (by simp; omega) _) (p := ⟨w.heap.size + 1, 4, none⟩) (by simp; omega) _) (p := ⟨w.heap.size + 1, 5, none⟩) (by simp; omega) _) (p := ⟨w.heap.size + 1, 6, none⟩) (by simp; omega) _).blk⟩⟩, ?_⟩
    repeat (refine below_set ?_ (by omega))
    exact HB.out



theorem cut_past {P : Program} (t e : TypeId) {i : TypeInfo} (ht : P.underlying t = some (.slice e)) (hi : P.info? e = some i) (A : Option Addr) (n c : Nat) (j : Int) (h0 : 0 ≤ j) (hm : j ≤ c) :
    ∀ W : World, (Instr.slice t (.slice A n c) none (some (.int .i64 j)) none).run P W = .ok (.slice A j.toNat c) W := by
  intro W
  have hel : P.elem t = e := by simp [Program.elem, ht]
  have hu : P.underlying t = some (.slice (P.elem t)) := by rw [hel]; exact ht
  have ha : (A.map fun x => x.add 0) = A := by cases A <;> simp [Addr.add]
  rw [run_slice_h W t A n c hu .i64 j h0 hm, hel]
  simp [sizeOf, typeInfo, hi, sliced, Result.andThen, ha]
theorem spare_length (l : List Int) : (spare l).length = l.length + room l.length := by simp [spare]
theorem Spare.readsAll {base : Nat} {w' : World} {b : Nat} {l : List Int} (h : Spare base w' b l) (hlen : l.length ≤ 1000000) : Kd.C (Kd.int .i64) w' (some ⟨b, 0, none⟩) (spare l).length (spare l) := by
  have hroom : room l.length ≤ l.length + 1 := by unfold room; split <;> (try split) <;> omega
  refine Kd.C_of_reads (d := (0 : Int)) (h1 := fun _ => rfl) ?_
  refine ⟨rfl, by rw [spare_length]; omega, fun hp => ⟨_, rfl, fun j hj => ?_⟩⟩
  rw [Go.Proofs.YtopifdmaaibcnaaGreatDoorW.PrintWords.add_plain, blk_cell h.blk j, numCells_get _ _ hj]
theorem eq_same (l : List Int) (h : l.length ≤ 9000000) : ∃ k, laws_eqIntS.f k l l = some true := by
  have key : ∀ d i : Nat, i + d = l.length → laws_eqIntS.l0 (d + 1) l l i = some true := by
    intro d
    induction d with
    | zero =>
      intro i hi
      simp only [laws_eqIntS.l0]
      rw [if_neg (by omega)]
    | succ d ih =>
      intro i hi
      have := ih (i + 1) (by omega)
      rw [laws_eqIntS.l0, if_pos (by omega), if_pos (by omega), if_pos (by omega), if_pos rfl]
      rw [show wrap64 ((i : Int) + 1) = ((i + 1 : Nat) : Int) by unfold wrap64; omega]
      exact this
  refine ⟨l.length + 1, ?_⟩
  unfold laws_eqIntS.f
  rw [if_pos rfl]
  exact key l.length 0 (by omega)
set_option maxHeartbeats 4000000 in
set_option maxRecDepth 100000 in
theorem intact_ok (base1 base2 b1 b2 : Nat) (l : List Int) (w : World) (s1 : Spare base1 w b1 l) (s2 : Spare base2 w b2 l) (hlen : l.length ≤ 1000000) :
    Calls Tryz.prog 65 #[.slice (some ⟨b1, 0, none⟩) l.length (l.length + room l.length), .slice (some ⟨b2, 0, none⟩) l.length (l.length + room l.length)] w fun e w' => e = .returned (.bool true) ∧ Drawn0 w w' := by
  have hroom : room l.length ≤ l.length + 1 := by unfold room; split <;> (try split) <;> omega
  have RC := fun W => room_calls l.length hlen W
  obtain ⟨k, hk⟩ := eq_same (spare l) (by rw [spare_length]; omega)
  have EC := fun W h1 h2 => laws_eqIntS.calls k (some ⟨b1, 0, none⟩) (l.length + room l.length) (spare l) (some ⟨b2, 0, none⟩) (l.length + room l.length) (spare l) true W h1 (by rw [spare_length]; omega) h2 (by rw [spare_length]; omega) hk
  rw [spare_length] at EC
  have R1 := s1.readsAll hlen
  have R2 := s2.readsAll hlen
  rw [spare_length] at R1 R2
  obtain ⟨m, hm⟩ : ∃ m, room l.length = m := ⟨_, rfl⟩
  rw [hm] at RC hroom EC R1 R2
  rw [hm]
  have c1 := cut_past (P := Tryz.prog) 22 3 Tryz.underlying22 (Option.map_eq_some_iff.1 info3).choose_spec.1 (some ⟨b1, 0, none⟩) l.length (l.length + m) ((l.length : Int) + m) (by omega) (by omega)
  have c2 := cut_past (P := Tryz.prog) 22 3 Tryz.underlying22 (Option.map_eq_some_iff.1 info3).choose_spec.1 (some ⟨b2, 0, none⟩) l.length (l.length + m) ((l.length : Int) + m) (by omega) (by omega)
  rw [show ((l.length : Int) + m).toNat = l.length + m by omega] at c1 c2
  have EA := Aside0.mk EC
  have RA1 := Aside0.mk R1
  have RA2 := Aside0.mk R2
  clear EC R1 R2 s1 s2 hm hk
  go_enter Tryz.func65, Tryz.ntmps65
  go_wp2_with (go_at_call 85; refine (RC _).mono ?_; rintro e w' ⟨rfl, ⟨nd, rfl⟩⟩)
  go_quiet ((go_at_call 44; (with_reducible refine (EA.out _ (Kd.C_drewN RA1.out _) (Kd.C_drewN RA2.out _)).mono ?_); rintro e w' ⟨rfl, ⟨nd, rfl⟩⟩; (try first | exact ⟨rfl, _, World.drewN_drewN _ _ _⟩ | exact ⟨rfl, _, Eq.trans (World.drewN_drewN _ _ _) (congrArg (World.drewN _) (Nat.add_assoc _ _ _))⟩)))
  go_wp2
  go_ret
  exact ⟨rfl, by repeat (first | exact Drawn0.refl _ | apply Drawn0.step)⟩
theorem heap_at2 (w : World) (o0 o1 : Obj) : ((w.alloc o0).alloc o1).heap[w.heap.size]? = some o0 ∧ ((w.alloc o0).alloc o1).heap[w.heap.size + 1]? = some o1 := by
  refine ⟨?_, ?_⟩
  · show ((w.heap.push o0).push o1)[w.heap.size]? = _
    rw [Array.getElem?_push, if_neg (by simp), Array.getElem?_push, if_pos rfl]
  · show ((w.heap.push o0).push o1)[w.heap.size + 1]? = _
    rw [Array.getElem?_push, if_pos (by simp)]
theorem SpareFig.later {base : Nat} {w w2 : World} {v2 v3 : Value} {l2 l3 : List Int} (h : SpareFig base w v2 v3 l2 l3) (hb : Below w.heap.size w w2) : SpareFig base w2 v2 v3 l2 l3 := by
  obtain ⟨b2, b3, h1, h2, h3, h4, h5⟩ := h.out
  exact ⟨b2, b3, h1, h2, h3, h4.later hb, h5.later hb⟩
theorem SpareFig.low {base base' : Nat} {w : World} {v2 v3 : Value} {l2 l3 : List Int} (h : SpareFig base w v2 v3 l2 l3) (hb : base' ≤ base) : SpareFig base' w v2 v3 l2 l3 := by
  obtain ⟨b2, b3, h1, h2, h3, h4, h5⟩ := h.out
  exact ⟨b2, b3, h1, h2, h3, h4.low hb, h5.low hb⟩
set_option maxHeartbeats 4000000 in
set_option maxRecDepth 100000 in
theorem intactfig_ok (a0 a1 : Int) (base1 base2 : Nat) (v2 v3 u2 u3 : Value) (l2 l3 : List Int) (w : World) (s1 : SpareFig base1 w v2 v3 l2 l3) (s2 : SpareFig base2 w u2 u3 l2 l3) (h2 : l2.length ≤ 1000000) (h3 : l3.length ≤ 1000000) :
    Calls Tryz.prog 38 #[.agg #[.int .i64 a0, .int .i64 a1, v2, v3], .agg #[.int .i64 a0, .int .i64 a1, u2, u3]] w fun e w' => e = .returned (.bool true) ∧ Below w.heap.size w w' := by
  obtain ⟨b2, b3, rfl, rfl, _, p2, p3⟩ := s1.out
  obtain ⟨d2, d3, rfl, rfl, _, q2, q3⟩ := s2.out
  have C2 := fun W hb => intact_ok base1 base2 b2 d2 l2 W (p2.later hb) (q2.later hb) h2
  have C3 := fun W hb => intact_ok base1 base2 b3 d3 l3 W (p3.later hb) (q3.later hb) h3
  have hu := Tryz.underlying30
  clear p2 p3 q2 q3 s1 s2
  go_enter Tryz.func38, Tryz.ntmps38
  go_wp2_with fail
  refine (C2 _ (below_alloc (below_alloc (Below.refl _ _) _) _)).mono ?_
  rintro e w' ⟨rfl, ⟨nd, rfl⟩⟩
  go_wp2_with fail
  refine (C3 _ (pw_below_drewN (below_alloc (below_alloc (Below.refl _ _) _) _) _)).mono ?_
  rintro e w' ⟨rfl, ⟨nd2, rfl⟩⟩
  go_wp2_with fail
  go_ret
  exact ⟨rfl, by repeat (first | exact Below.refl _ _ | apply below_alloc | apply pw_below_drewN | apply below_drew1)⟩

set_option maxHeartbeats 4000000 in
set_option maxRecDepth 100000 in
theorem intactpuzzle_ok (a0 a1 d4 : Int) (d5 : Bool) (d6 : Int) (base1 base2 : Nat) (v2 v3 u2 u3 : Value) (l2 l3 : List Int) (w : World) (s1 : SpareFig base1 w v2 v3 l2 l3) (s2 : SpareFig base2 w u2 u3 l2 l3) (h2 : l2.length ≤ 1000000) (h3 : l3.length ≤ 1000000) :
    Calls Tryz.prog 14 #[.agg #[.int .i64 a0, .int .i64 a1, v2, v3, .int .i64 d4, .bool d5, .int .i64 d6], .agg #[.int .i64 a0, .int .i64 a1, u2, u3, .int .i64 d4, .bool d5, .int .i64 d6]] w fun e w' => e = .returned (.bool true) ∧ Below w.heap.size w w' := by
  have C2 := fun W hb => intactfig_ok a0 a1 base1 base2 v2 v3 u2 u3 l2 l3 W (s1.later hb) (s2.later hb) h2 h3
  have hu := Tryz.underlying30
  have hu2 := Tryz.underlying32
  clear s1 s2
  go_enter Tryz.func14, Tryz.ntmps14
  go_wp2_with fail
  refine (C2 _ (below_alloc (below_alloc (Below.refl _ _) _) _)).mono ?_
  rintro e w1 ⟨rfl, hb⟩
  have B0 : w1.heap[w.heap.size]? = _ := (hb.block _ (by simp; try omega)).trans (heap_at2 _ _ _).1
  have B1 : w1.heap[w.heap.size + 1]? = _ := (hb.block _ (by simp; try omega)).trans (heap_at2 _ _ _).2
  have k0 : w1.cell? ⟨w.heap.size, 4, none⟩ = some (.int .i64 d4) := (blk_cell B0 4).trans rfl
  have k1 : w1.cell? ⟨w.heap.size + 1, 4, none⟩ = some (.int .i64 d4) := (blk_cell B1 4).trans rfl
  have k2 : w1.cell? ⟨w.heap.size, 5, none⟩ = some (.bool d5) := (blk_cell B0 5).trans rfl
  have k3 : w1.cell? ⟨w.heap.size + 1, 5, none⟩ = some (.bool d5) := (blk_cell B1 5).trans rfl
  have k4 : w1.cell? ⟨w.heap.size, 6, none⟩ = some (.int .i64 d6) := (blk_cell B0 6).trans rfl
  have k5 : w1.cell? ⟨w.heap.size + 1, 6, none⟩ = some (.int .i64 d6) := (blk_cell B1 6).trans rfl
  have HB := Aside0.mk (below_step (below_alloc (below_alloc (Below.refl w.heap.size w) _) _) hb)
  clear B0 B1 hb
  go_wp2_with fail
  go_ret
  exact ⟨rfl, HB.out⟩


theorem SpareFig.reads {base : Nat} {w : World} {v2 v3 : Value} {l2 l3 : List Int} (h : SpareFig base w v2 v3 l2 l3) (h2 : l2.length ≤ 1000000) (h3 : l3.length ≤ 1000000) :
    ∃ A2 c2 A3 c3, v2 = .slice A2 l2.length c2 ∧ v3 = .slice A3 l3.length c3 ∧ l2.length ≤ c2 ∧ l3.length ≤ c3 ∧ Kd.C (Kd.int .i64) w A2 l2.length l2 ∧ Kd.C (Kd.int .i64) w A3 l3.length l3 := by
  obtain ⟨b2, b3, e2, e3, _, p2, p3⟩ := h.out
  exact ⟨_, _, _, _, e2, e3, by omega, by omega, p2.reads h2, p3.reads h3⟩
theorem blk_later {w w' : World} {g : Nat} {o : Obj} (h : w.heap[g]? = some o) (hb : Below w.heap.size w w') : w'.heap[g]? = some o := (hb.block g (blk_lt h)).trans h

/-- two lists in memory of their own, in blocks from lo up to hi -/
structure Pair (B lo hi : Nat) (W : World) (v2 v3 : Value) (l2 l3 : List Int) : Prop where
  r2 : Kd.R (Kd.int .i64) 3 W B (fun k => (lo ≤ k ∧ k < hi) ∧ some k ≠ v3.ownBlock) v2 l2
  r3 : Kd.R (Kd.int .i64) 3 W B (fun k => (lo ≤ k ∧ k < hi) ∧ some k ≠ v2.ownBlock) v3 l3
theorem Pair.of {B base : Nat} {W : World} {v2 v3 : Value} {l2 l3 : List Int} (hB : B ≤ base) (h2 : Kd.R (Kd.int .i64) 3 W base (fun k => some k ≠ v3.ownBlock) v2 l2) (h3 : Kd.R (Kd.int .i64) 3 W base (fun k => some k ≠ v2.ownBlock) v3 l3) : Pair B base W.heap.size W v2 v3 l2 l3 :=
  ⟨Kd.R_lower (Kd.R_mono (Kd.R_bound h2) (fun k hk => ⟨⟨hk.2.1, hk.2.2.1⟩, hk.1⟩)) hB, Kd.R_lower (Kd.R_mono (Kd.R_bound h3) (fun k hk => ⟨⟨hk.2.1, hk.2.2.1⟩, hk.1⟩)) hB⟩
theorem Pair.spare {B base : Nat} {W : World} {v2 v3 : Value} {l2 l3 : List Int} (hB : B ≤ base) (h : SpareFig base W v2 v3 l2 l3) (n2 : l2.length ≤ 1000000) (n3 : l3.length ≤ 1000000) : Pair B base W.heap.size W v2 v3 l2 l3 := by
  obtain ⟨b2, b3, rfl, rfl, hne, s2, s3⟩ := h.out
  refine Pair.of hB (Kd.R_reok rfl (s2.owns n2) (fun k hk => ?_)) (Kd.R_reok rfl (s3.owns n3) (fun k hk => ?_))
  · have e : b2 = k := Option.some.inj hk
    show some k ≠ some b3
    intro q; exact hne (e.trans (Option.some.inj q))
  · have e : b3 = k := Option.some.inj hk
    show some k ≠ some b2
    intro q; exact hne ((Option.some.inj q).symm.trans e.symm)
theorem Pair.kept {B lo hi : Nat} {W W2 : World} {v2 v3 : Value} {l2 l3 : List Int} {S : Nat → Prop} (h : Pair B lo hi W v2 v3 l2 l3) (hk : Kept W W2 S) (hs : ∀ k, lo ≤ k → k < hi → ¬ S k) : Pair B lo hi W2 v2 v3 l2 l3 :=
  ⟨Kd.R_kept h.r2 hk (fun k q => hs k q.1.1 q.1.2), Kd.R_kept h.r3 hk (fun k q => hs k q.1.1 q.1.2)⟩
theorem Pair.below {B lo hi : Nat} {W W2 : World} {v2 v3 : Value} {l2 l3 : List Int} (h : Pair B lo hi W v2 v3 l2 l3) (hb : Below W.heap.size W W2) : Pair B lo hi W2 v2 v3 l2 l3 := ⟨Kd.R_below h.r2 hb, Kd.R_below h.r3 hb⟩
theorem Pair.alloc {B lo hi : Nat} {W : World} {v2 v3 : Value} {l2 l3 : List Int} (h : Pair B lo hi W v2 v3 l2 l3) (o : Obj) : Pair B lo hi (W.alloc o) v2 v3 l2 l3 := ⟨Kd.R_alloc h.r2 o, Kd.R_alloc h.r3 o⟩
theorem Pair.reads {B lo hi : Nat} {W : World} {v2 v3 : Value} {l2 l3 : List Int} (h : Pair B lo hi W v2 v3 l2 l3) :
    ∃ A2 c2 A3 c3, v2 = .slice A2 l2.length c2 ∧ v3 = .slice A3 l3.length c3 ∧ l2.length ≤ c2 ∧ l3.length ≤ c3 ∧ Kd.C (Kd.int .i64) W A2 l2.length l2 ∧ Kd.C (Kd.int .i64) W A3 l3.length l3 := by
  obtain ⟨A2, c2, e2, q2, r2⟩ := Kd.R_reads h.r2
  obtain ⟨A3, c3, e3, q3, r3⟩ := Kd.R_reads h.r3
  exact ⟨A2, c2, A3, c3, e2, e3, q2, q3, r2, r3⟩
theorem Pair.shut {B lo hi : Nat} {W W' : World} {v2 v3 : Value} {l2 l3 y2 y3 : List Int} (h : Pair B lo hi W v2 v3 l2 l3) (h2 : ∃ ok, Kd.R (Kd.int .i64) 3 W' B ok v2 y2) (h3 : ∃ ok, Kd.R (Kd.int .i64) 3 W' B ok v3 y3) : Pair B lo hi W' v2 v3 y2 y3 := by
  obtain ⟨_, h2⟩ := h2
  obtain ⟨_, h3⟩ := h3
  exact ⟨Kd.R_reok rfl h2 (fun k hk => h.r2.1 k hk), Kd.R_reok rfl h3 (fun k hk => h.r3.1 k hk)⟩
theorem Pair.from {B lo lo' hi : Nat} {W : World} {v2 v3 : Value} {l2 l3 : List Int} (h : Pair B lo hi W v2 v3 l2 l3) (hl : lo' ≤ lo) : Pair B lo' hi W v2 v3 l2 l3 :=
  ⟨Kd.R_mono h.r2 (fun k q => ⟨⟨Nat.le_trans hl q.1.1, q.1.2⟩, q.2⟩), Kd.R_mono h.r3 (fun k q => ⟨⟨Nat.le_trans hl q.1.1, q.1.2⟩, q.2⟩)⟩
theorem mark_puz {k : Nat} {a0 a1 a n d4 d6 : Int} {d5 : Bool} {y2 y3 l2 l3 : List Int} {v2 v3 : Value} {lo hi : Nat} {w W : World} (hm : laws_markPuzzle.f k a0 a1 l2 l3 d4 d5 d6 a = some (n, y2, y3)) (hB : Below w.heap.size w W) (h : Pair w.heap.size lo hi W v2 v3 l2 l3) :
    Calls Tryz.prog 20 #[.agg #[.int .i64 a0, .int .i64 a1, v2, v3, .int .i64 d4, .bool d5, .int .i64 d6], .int .i64 a] W fun e w' => e = .returned (.int .i64 n) ∧ Pair w.heap.size lo hi w' v2 v3 y2 y3 ∧ Below w.heap.size w w' ∧ Kept W w' (fun k => lo ≤ k ∧ k < hi) := by
  refine (laws_markPuzzle.calls k a0 a1 (fun k => (lo ≤ k ∧ k < hi) ∧ some k = v2.ownBlock) v2 l2 (fun k => (lo ≤ k ∧ k < hi) ∧ some k = v3.ownBlock) v3 l3 d4 d5 d6 a n y2 y3 w W hB (Kd.R_reok rfl h.r2 (fun k hk => ⟨(h.r2.1 k hk).1, hk.symm⟩)) ?_ (Kd.R_reok rfl h.r3 (fun k hk => ⟨(h.r3.1 k hk).1, hk.symm⟩)) ?_ hm).mono ?_
  · rintro k ⟨_, q⟩ ⟨_, q'⟩
    exact (h.r2.1 k q.symm).2 q'
  · rintro k ⟨_, q⟩ ⟨_, q'⟩
    exact (h.r3.1 k q.symm).2 q'
  · rintro e w' ⟨rfl, m2, m3, hb, hk⟩
    exact ⟨rfl, h.shut ⟨_, m2⟩ ⟨_, m3⟩, hb, hk.mono (fun k q => q.elim (fun q => q.1) (fun q => q.1))⟩

set_option maxHeartbeats 16000000 in
set_option maxRecDepth 100000 in
theorem law_Solutions (ks ki km : Nat) (fs : List (Int × Int × List Int × List Int)) (ok : Bool) (z0 n0 n : Int) (x2 x3 : List Int) (ys : List (Int × Int × List Int × List Int)) (a0 a1 : Int) (A2 : Option Addr) (c2 : Nat) (l2 : List Int) (A3 : Option Addr) (c3 : Nat) (l3 : List Int) (d4 : Int) (d5 : Bool) (d6 : Int) (w : World) (hT : TzTab w)
    (hr2 : Kd.C (Kd.int .i64) w A2 l2.length l2) (hr3 : Kd.C (Kd.int .i64) w A3 l3.length l3) (hc2 : l2.length ≤ c2) (hc3 : l3.length ≤ c3)
    (hsz : laws_szPuzzle.f a0 a1 l2 l3 d4 d5 d6 1000000 = some z0) (hlen : 0 ≤ z0 → l2.length ≤ 1000000 ∧ l3.length ≤ 1000000)
    (hs : 0 ≤ z0 → spec_Solutions.f ks a0 a1 l2 l3 d4 d5 d6 = some (fs, ok)) (hi : 0 ≤ z0 → solsF ki a0 a1 l2 l3 d4 d5 d6 = some (fs, ok))
    (heq : ∀ x ∈ fs, laws_eqFigure.f km x.1 x.2.1 x.2.2.1 x.2.2.2 x.1 x.2.1 x.2.2.1 x.2.2.2 = some true) (hmx : 0 ≤ z0 → laws_markPuzzle.f km a0 a1 l2 l3 d4 d5 d6 101 = some (n0, x2, x3)) (hn0 : 0 ≤ n0)
    (hmg : mkFS km fs 101 = some (n, ys)) (hn : 0 ≤ n) (hhe : hdFS km ys 101 = some n) :
    Calls Tryz.prog 8 #[.agg #[.int .i64 a0, .int .i64 a1, .slice A2 l2.length c2, .slice A3 l3.length c3, .int .i64 d4, .bool d5, .int .i64 d6]] w fun e w' => e = .returned (.bool true) ∧ Below w.heap.size w w' := by
  have SZ := fun W hr2 hr3 => laws_szPuzzle.calls a0 a1 A2 c2 l2 A3 c3 l3 d4 d5 d6 1000000 z0 W hr2 hc2 hr3 hc3 hsz
  have HR2 := Aside0.mk hr2
  have HR3 := Aside0.mk hr3
  have hulawsPuzzle := Tryz.underlying26
  have huimplPuzzle := Tryz.underlying32
  have huimplFigure := Tryz.underlying30
  have HT := Aside0.mk hT
  clear hr2 hr3 hsz hT
  by_cases hneg : z0 < 0
  · have hdec : decide (z0 < 0) = true := decide_eq_true hneg
    clear hs hi hlen hmx
    go_enter Tryz.func8, Tryz.ntmps8
    go_wp2_with fail
    refine (SZ _ (Kd.C_alloc HR2.out _) (Kd.C_alloc HR3.out _)).mono ?_
    rintro e w1 ⟨rfl, hb⟩
    have HB := Aside0.mk (below_step (below_alloc (Below.refl w.heap.size w) _) hb)
    clear hb
    go_wp2_with fail
    go_ret
    exact ⟨rfl, HB.out⟩
  · have hdec : decide (z0 < 0) = false := decide_eq_false hneg
    obtain ⟨hl2, hl3⟩ := hlen (by omega)
    replace hs := hs (by omega)
    replace hi := hi (by omega)
    replace hmx := hmx (by omega)
    clear hlen
    have hd0 : decide (n0 < 0) = false := decide_eq_false (by omega)
    have hdn : decide (n < 0) = false := decide_eq_false (by omega)
    have hbn : (n != n) = false := by simp
    have hok : (ok != ok) = false := by cases ok <;> rfl
    have TO := fun W hr2 hr3 => topuzzle_full a0 a1 A2 c2 l2 A3 c3 l3 d4 d5 d6 W hr2 hr3 hl2 hl3
    have TB := fun W hr2 hr3 => laws_toPuzzle.calls a0 a1 A2 c2 l2 A3 c3 l3 d4 d5 d6 true a0 a1 l2 l3 d4 d5 d6 W hr2 hc2 hr3 hc3 (by simp [laws_toPuzzle.f, laws_toFigure.f, laws_toIntS.f, hl2, hl3])
    have SP := fun A2 c2 A3 c3 W hr2 hc2 hr3 hc3 => spec_Solutions.calls ks a0 a1 A2 c2 l2 A3 c3 l3 d4 d5 d6 fs ok W hr2 hc2 hr3 hc3 hs
    have IM := fun A2 c2 A3 c3 W hT hr2 hc2 hr3 hc3 => impl_Solutions.calls ki a0 a1 A2 c2 l2 A3 c3 l3 d4 d5 d6 fs ok W hT hr2 hc2 hr3 hc3 hi
    have EQ := fun B lo hi lo' hi' A c A' c' qs rs W (p : FT B lo hi W (.slice A qs.length c) qs) (q : FT B lo' hi' W (.slice A' rs.length c') rs) (e1 : qs.map fgP = fs) (e2 : rs.map fgP = fs) => eqs_ft p q (e1.trans e2.symm) (fun x hx => heq x (e1 ▸ hx))
    have HMG := Aside0.mk hmg
    have HHE := Aside0.mk hhe
    clear hs hi heq hhe hmg
    go_enter Tryz.func8, Tryz.ntmps8
    go_wp2_with fail
    refine (SZ _ (Kd.C_alloc HR2.out _) (Kd.C_alloc HR3.out _)).mono ?_
    rintro e w1 ⟨rfl, hb⟩
    have Xa_1 := Aside0.mk (blk_later (heap_new w _) hb)
    have HB_1 := Aside0.mk (below_step (below_alloc (Below.refl w.heap.size w) _) hb)
    have Z1 := Aside0.mk (show w.heap.size + 1 ≤ w1.heap.size by have := hb.size; simp at this; omega)
    clear hb SZ
    have ka_0 : w1.cell? ⟨w.heap.size, 0, none⟩ = some (.int .i64 a0) := (blk_cell Xa_1.out 0).trans rfl
    have ka_1 : w1.cell? ⟨w.heap.size, 1, none⟩ = some (.int .i64 a1) := (blk_cell Xa_1.out 1).trans rfl
    have ka_2 : w1.cell? ⟨w.heap.size, 2, none⟩ = some (.slice A2 l2.length c2) := (blk_cell Xa_1.out 2).trans rfl
    have ka_3 : w1.cell? ⟨w.heap.size, 3, none⟩ = some (.slice A3 l3.length c3) := (blk_cell Xa_1.out 3).trans rfl
    have ka_4 : w1.cell? ⟨w.heap.size, 4, none⟩ = some (.int .i64 d4) := (blk_cell Xa_1.out 4).trans rfl
    have ka_5 : w1.cell? ⟨w.heap.size, 5, none⟩ = some (.bool d5) := (blk_cell Xa_1.out 5).trans rfl
    have ka_6 : w1.cell? ⟨w.heap.size, 6, none⟩ = some (.int .i64 d6) := (blk_cell Xa_1.out 6).trans rfl
    have sba := blk_lt Xa_1.out
    go_wp2_with fail
    refine (TO _ (Kd.C_below HR2.out (HB_1.out)) (Kd.C_below HR3.out (HB_1.out))).mono ?_
    rintro e w2 ⟨v2, v3, rfl, sf, hb⟩
    have Xa_2 := Aside0.mk (blk_later (Xa_1.out) hb)
    have HB_2 := Aside0.mk (below_step (HB_1.out) hb)
    have Z2 := Aside0.mk (show w1.heap.size ≤ w2.heap.size by have := hb.size; (try simp at this); omega)
    obtain ⟨B2, f2, B3, f3, rfl, rfl, q2, q3, p2, p3⟩ := sf.reads hl2 hl3
    clear hb sf
    clear ka_0 ka_1 ka_2 ka_3 ka_4 ka_5 ka_6 sba
    go_wp2_with fail
    refine (SP _ _ _ _ _ p2 q2 p3 q3).mono ?_
    rintro e w3 ⟨v, ws, rfl, hm, hr, hq, hb⟩
    obtain ⟨Aw, cw, rfl⟩ := Kd.R_slice hr
    have Xa_3 := Aside0.mk (blk_later (Xa_2.out) hb)
    have HB_3 := Aside0.mk (below_step (HB_2.out) hb)
    have Z3 := Aside0.mk (show w2.heap.size ≤ w3.heap.size by have := hb.size; (try simp at this); omega)
    have Pw_3 := Aside0.mk (FT.of (show w.heap.size ≤ w2.heap.size by have := Z1.out; have := Z2.out; have := Z3.out; omega) hr hq)
    have HMw := Aside0.mk hm
    clear hb hr hq hm p2 p3 q2 q3
    have ka_0 : w3.cell? ⟨w.heap.size, 0, none⟩ = some (.int .i64 a0) := (blk_cell Xa_3.out 0).trans rfl
    have ka_1 : w3.cell? ⟨w.heap.size, 1, none⟩ = some (.int .i64 a1) := (blk_cell Xa_3.out 1).trans rfl
    have ka_2 : w3.cell? ⟨w.heap.size, 2, none⟩ = some (.slice A2 l2.length c2) := (blk_cell Xa_3.out 2).trans rfl
    have ka_3 : w3.cell? ⟨w.heap.size, 3, none⟩ = some (.slice A3 l3.length c3) := (blk_cell Xa_3.out 3).trans rfl
    have ka_4 : w3.cell? ⟨w.heap.size, 4, none⟩ = some (.int .i64 d4) := (blk_cell Xa_3.out 4).trans rfl
    have ka_5 : w3.cell? ⟨w.heap.size, 5, none⟩ = some (.bool d5) := (blk_cell Xa_3.out 5).trans rfl
    have ka_6 : w3.cell? ⟨w.heap.size, 6, none⟩ = some (.int .i64 d6) := (blk_cell Xa_3.out 6).trans rfl
    have sba := blk_lt Xa_3.out
    go_wp2_with fail
    refine (TO _ (Kd.C_below HR2.out (HB_3.out)) (Kd.C_below HR3.out (HB_3.out))).mono ?_
    rintro e w4 ⟨v2, v3, rfl, sf, hb⟩
    have Xa_4 := Aside0.mk (blk_later (Xa_3.out) hb)
    have Pw_4 := Aside0.mk ((Pw_3.out).below hb)
    have HB_4 := Aside0.mk (below_step (HB_3.out) hb)
    have Z4 := Aside0.mk (show w3.heap.size ≤ w4.heap.size by have := hb.size; (try simp at this); omega)
    have SF_4 := Aside0.mk sf
    have Px_4 := Aside0.mk (Pair.spare (show w.heap.size ≤ w3.heap.size by have := Z1.out; have := Z2.out; have := Z3.out; have := Z4.out; omega) sf hl2 hl3)
    obtain ⟨B2, f2, B3, f3, rfl, rfl, q2, q3, p2, p3⟩ := sf.reads hl2 hl3
    clear hb sf
    clear ka_0 ka_1 ka_2 ka_3 ka_4 ka_5 ka_6 sba
    go_wp2_with fail
    refine (IM _ _ _ _ _ (tz_below HT.out (below_alloc (HB_4.out) _)) (Kd.C_alloc p2 _) q2 (Kd.C_alloc p3 _) q3).mono ?_
    rintro e w5 ⟨v, gs, rfl, hm, hr, hq, hd, hb⟩
    obtain ⟨Ag, cg, rfl⟩ := Kd.R_slice hr
    have Xa_5 := Aside0.mk (blk_later (blk_alloc Xa_4.out _) hb)
    have Xx_5 := Aside0.mk (blk_later (heap_new w4 _) hb)
    have Pw_5 := Aside0.mk ((FT.alloc Pw_4.out _).below hb)
    have Px_5 := Aside0.mk ((Pair.alloc Px_4.out _).below hb)
    have HB_5 := Aside0.mk (below_step (below_alloc (HB_4.out) _) hb)
    have Z5 := Aside0.mk (show w4.heap.size + 1 ≤ w5.heap.size by have := hb.size; (try simp at this); omega)
    have SF_5 := Aside0.mk (SF_4.out.later (below_step (below_alloc (Below.refl _ _) _) hb))
    have Pg_5 := Aside0.mk ((FS.of (show w.heap.size ≤ (w4.alloc _).heap.size by simp; have := Z1.out; have := Z2.out; have := Z3.out; have := Z4.out; have := Z5.out; omega) hr hq hd).from (lo' := w4.heap.size + 1) (by simp))
    have HMg := Aside0.mk hm
    clear hb hr hq hd hm p2 p3 q2 q3
    go_wp2_with fail
    refine (EQ _ _ _ _ _ _ _ _ _ _ _ _ (Pg_5.out.ft) (Pw_5.out) HMg.out HMw.out).mono ?_
    rintro e w6 ⟨rfl, hb⟩
    have Xa_6 := Aside0.mk (blk_later (Xa_5.out) hb)
    have Xx_6 := Aside0.mk (blk_later (Xx_5.out) hb)
    have Pw_6 := Aside0.mk ((Pw_5.out).below hb)
    have Px_6 := Aside0.mk ((Px_5.out).below hb)
    have Pg_6 := Aside0.mk ((Pg_5.out).below hb)
    have HB_6 := Aside0.mk (below_step (HB_5.out) hb)
    have Z6 := Aside0.mk (show w5.heap.size ≤ w6.heap.size by have := hb.size; (try simp at this); omega)
    have SF_6 := Aside0.mk (SF_5.out.later hb)
    clear hb
    have ka_0 : w6.cell? ⟨w.heap.size, 0, none⟩ = some (.int .i64 a0) := (blk_cell Xa_6.out 0).trans rfl
    have ka_1 : w6.cell? ⟨w.heap.size, 1, none⟩ = some (.int .i64 a1) := (blk_cell Xa_6.out 1).trans rfl
    have ka_2 : w6.cell? ⟨w.heap.size, 2, none⟩ = some (.slice A2 l2.length c2) := (blk_cell Xa_6.out 2).trans rfl
    have ka_3 : w6.cell? ⟨w.heap.size, 3, none⟩ = some (.slice A3 l3.length c3) := (blk_cell Xa_6.out 3).trans rfl
    have ka_4 : w6.cell? ⟨w.heap.size, 4, none⟩ = some (.int .i64 d4) := (blk_cell Xa_6.out 4).trans rfl
    have ka_5 : w6.cell? ⟨w.heap.size, 5, none⟩ = some (.bool d5) := (blk_cell Xa_6.out 5).trans rfl
    have ka_6 : w6.cell? ⟨w.heap.size, 6, none⟩ = some (.int .i64 d6) := (blk_cell Xa_6.out 6).trans rfl
    have kx_0 : w6.cell? ⟨w4.heap.size, 0, none⟩ = some (.int .i64 a0) := (blk_cell Xx_6.out 0).trans rfl
    have kx_1 : w6.cell? ⟨w4.heap.size, 1, none⟩ = some (.int .i64 a1) := (blk_cell Xx_6.out 1).trans rfl
    have kx_2 : w6.cell? ⟨w4.heap.size, 2, none⟩ = some (.slice B2 l2.length f2) := (blk_cell Xx_6.out 2).trans rfl
    have kx_3 : w6.cell? ⟨w4.heap.size, 3, none⟩ = some (.slice B3 l3.length f3) := (blk_cell Xx_6.out 3).trans rfl
    have kx_4 : w6.cell? ⟨w4.heap.size, 4, none⟩ = some (.int .i64 d4) := (blk_cell Xx_6.out 4).trans rfl
    have kx_5 : w6.cell? ⟨w4.heap.size, 5, none⟩ = some (.bool d5) := (blk_cell Xx_6.out 5).trans rfl
    have kx_6 : w6.cell? ⟨w4.heap.size, 6, none⟩ = some (.int .i64 d6) := (blk_cell Xx_6.out 6).trans rfl
    have sba := blk_lt Xa_6.out
    have sbx := blk_lt Xx_6.out
    go_wp2_with fail
    have INT := fun base1 base2 u2 u3 W s1 s2 => intactpuzzle_ok a0 a1 d4 d5 d6 base1 base2 (.slice B2 l2.length f2) (.slice B3 l3.length f3) u2 u3 l2 l3 W s1 s2 hl2 hl3
    go_region_held3 (fun W => W.cell? ⟨w.heap.size, 0, none⟩ = some (.int .i64 a0) ∧ W.cell? ⟨w.heap.size, 1, none⟩ = some (.int .i64 a1) ∧ W.cell? ⟨w.heap.size, 2, none⟩ = some (.slice A2 l2.length c2) ∧ W.cell? ⟨w.heap.size, 3, none⟩ = some (.slice A3 l3.length c3) ∧ W.cell? ⟨w.heap.size, 4, none⟩ = some (.int .i64 d4) ∧ W.cell? ⟨w.heap.size, 5, none⟩ = some (.bool d5) ∧ W.cell? ⟨w.heap.size, 6, none⟩ = some (.int .i64 d6) ∧ W.cell? ⟨w4.heap.size, 0, none⟩ = some (.int .i64 a0) ∧ W.cell? ⟨w4.heap.size, 1, none⟩ = some (.int .i64 a1) ∧ W.cell? ⟨w4.heap.size, 2, none⟩ = some (.slice B2 l2.length f2) ∧ W.cell? ⟨w4.heap.size, 3, none⟩ = some (.slice B3 l3.length f3) ∧ W.cell? ⟨w4.heap.size, 4, none⟩ = some (.int .i64 d4) ∧ W.cell? ⟨w4.heap.size, 5, none⟩ = some (.bool d5) ∧ W.cell? ⟨w4.heap.size, 6, none⟩ = some (.int .i64 d6))
      (first
        | (go_split_ands; exact ⟨pw_cell_below hb2 (pw_cell_below hb ka_0), pw_cell_below hb2 (pw_cell_below hb ka_1), pw_cell_below hb2 (pw_cell_below hb ka_2), pw_cell_below hb2 (pw_cell_below hb ka_3), pw_cell_below hb2 (pw_cell_below hb ka_4), pw_cell_below hb2 (pw_cell_below hb ka_5), pw_cell_below hb2 (pw_cell_below hb ka_6), pw_cell_below hb2 (pw_cell_below hb kx_0), pw_cell_below hb2 (pw_cell_below hb kx_1), pw_cell_below hb2 (pw_cell_below hb kx_2), pw_cell_below hb2 (pw_cell_below hb kx_3), pw_cell_below hb2 (pw_cell_below hb kx_4), pw_cell_below hb2 (pw_cell_below hb kx_5), pw_cell_below hb2 (pw_cell_below hb kx_6)⟩)
        | (go_split_ands; exact ⟨pw_cell_below hb ka_0, pw_cell_below hb ka_1, pw_cell_below hb ka_2, pw_cell_below hb ka_3, pw_cell_below hb ka_4, pw_cell_below hb ka_5, pw_cell_below hb ka_6, pw_cell_below hb kx_0, pw_cell_below hb kx_1, pw_cell_below hb kx_2, pw_cell_below hb kx_3, pw_cell_below hb kx_4, pw_cell_below hb kx_5, pw_cell_below hb kx_6⟩)
        | go_keep)
      (first
        | (go_at_call 12; refine (TO _ (Kd.C_below HR2.out (below_drew1 (HB_6.out))) (Kd.C_below HR3.out (below_drew1 (HB_6.out)))).mono ?_; rintro e w7 ⟨u2, u3, rfl, sf, hb⟩)
        | (go_at_call 14; refine (INT _ _ _ _ _ (SF_6.out.later (below_step (below_drew1 (Below.refl _ _)) hb)) sf).mono ?_; rintro e w8 ⟨rfl, hb2⟩))
    have hb8 : Below w6.heap.size w6 w8 := below_step (below_step (below_drew1 (Below.refl _ _)) hb) hb2
    have Xa_8 := Aside0.mk (blk_later Xa_6.out hb8)
    have Xx_8 := Aside0.mk (blk_later Xx_6.out hb8)
    have Pw_8 := Aside0.mk (Pw_6.out.below hb8)
    have Px_8 := Aside0.mk (Px_6.out.below hb8)
    have Pg_8 := Aside0.mk (Pg_6.out.below hb8)
    have HB_8 := Aside0.mk (below_step (HB_6.out) hb8)
    have Z8 := Aside0.mk (show w6.heap.size ≤ w8.heap.size from hb8.size)
    clear hb hb2 hb8 sf SF_4 SF_5 SF_6 INT
    clear ka_0 ka_1 ka_2 ka_3 ka_4 ka_5 ka_6 kx_0 kx_1 kx_2 kx_3 kx_4 kx_5 kx_6 sba sbx
    have kx_0 : w8.cell? ⟨w4.heap.size, 0, none⟩ = some (.int .i64 a0) := (blk_cell Xx_8.out 0).trans rfl
    have kx_1 : w8.cell? ⟨w4.heap.size, 1, none⟩ = some (.int .i64 a1) := (blk_cell Xx_8.out 1).trans rfl
    have kx_2 : w8.cell? ⟨w4.heap.size, 2, none⟩ = some (.slice B2 l2.length f2) := (blk_cell Xx_8.out 2).trans rfl
    have kx_3 : w8.cell? ⟨w4.heap.size, 3, none⟩ = some (.slice B3 l3.length f3) := (blk_cell Xx_8.out 3).trans rfl
    have kx_4 : w8.cell? ⟨w4.heap.size, 4, none⟩ = some (.int .i64 d4) := (blk_cell Xx_8.out 4).trans rfl
    have kx_5 : w8.cell? ⟨w4.heap.size, 5, none⟩ = some (.bool d5) := (blk_cell Xx_8.out 5).trans rfl
    have kx_6 : w8.cell? ⟨w4.heap.size, 6, none⟩ = some (.int .i64 d6) := (blk_cell Xx_8.out 6).trans rfl
    have sbx := blk_lt Xx_8.out
    go_wp2_with fail
    refine (mark_puz hmx (HB_8.out) Px_8.out).mono ?_
    rintro e w9 ⟨rfl, pm, hb, hk⟩
    have Xa_9 := Aside0.mk (blk_kept Xa_8.out hk (by have := Z1.out; have := Z2.out; have := Z3.out; have := Z4.out; have := Z5.out; have := Z6.out; have := Z8.out; omega))
    have Xx_9 := Aside0.mk (blk_kept Xx_8.out hk (by have := Z1.out; have := Z2.out; have := Z3.out; have := Z4.out; have := Z5.out; have := Z6.out; have := Z8.out; omega))
    have Pw_9 := Aside0.mk (Pw_8.out.kept hk (fun k q1 q2 => by have := Z1.out; have := Z2.out; have := Z3.out; have := Z4.out; have := Z5.out; have := Z6.out; have := Z8.out; omega))
    have Px_9 := Aside0.mk pm
    have Pg_9 := Aside0.mk (Pg_8.out.kept hk (fun k q1 q2 => by have := Z1.out; have := Z2.out; have := Z3.out; have := Z4.out; have := Z5.out; have := Z6.out; have := Z8.out; omega))
    have HB_9 := Aside0.mk hb
    have Z9 := Aside0.mk (show w8.heap.size ≤ w9.heap.size from hk.1)
    clear hb hk pm
    clear kx_0 kx_1 kx_2 kx_3 kx_4 kx_5 kx_6 sbx
    go_wp2_with fail
    refine (EQ _ _ _ _ _ _ _ _ _ _ _ _ (Pg_9.out.ft) (Pw_9.out) HMg.out HMw.out).mono ?_
    rintro e w10 ⟨rfl, hb⟩
    have Xa_10 := Aside0.mk (blk_later (Xa_9.out) hb)
    have Xx_10 := Aside0.mk (blk_later (Xx_9.out) hb)
    have Pw_10 := Aside0.mk ((Pw_9.out).below hb)
    have Pg_10 := Aside0.mk ((Pg_9.out).below hb)
    have HB_10 := Aside0.mk (below_step (HB_9.out) hb)
    have Z10 := Aside0.mk (show w9.heap.size ≤ w10.heap.size by have := hb.size; (try simp at this); omega)
    clear hb
    go_wp2_with fail
    refine (laws_markFigureS.calls km _ _ _ _ _ 101 n ys w _ (HB_10.out) Pg_10.out (HMg.out ▸ HMG.out)).mono ?_
    rintro e w11 ⟨rfl, gt, hy, hl, pm, hb, hk⟩
    have Xa_11 := Aside0.mk (blk_kept Xa_10.out hk (by have := Z1.out; have := Z2.out; have := Z3.out; have := Z4.out; have := Z5.out; have := Z6.out; have := Z8.out; have := Z9.out; have := Z10.out; omega))
    have Xx_11 := Aside0.mk (blk_kept Xx_10.out hk (by have := Z1.out; have := Z2.out; have := Z3.out; have := Z4.out; have := Z5.out; have := Z6.out; have := Z8.out; have := Z9.out; have := Z10.out; omega))
    have Pw_11 := Aside0.mk (Pw_10.out.kept hk (fun k q1 q2 => by have := Z1.out; have := Z2.out; have := Z3.out; have := Z4.out; have := Z5.out; have := Z6.out; have := Z8.out; have := Z9.out; have := Z10.out; omega))
    have Pg_11 := Aside0.mk pm
    have HB_11 := Aside0.mk hb
    have Z11 := Aside0.mk (show w10.heap.size ≤ w11.heap.size from hk.1)
    have HEg := fun W lo hi (p : FT w.heap.size lo hi W (.slice Ag gt.length cg) gt) => laws_heldFigureS.calls km Ag cg gt _ _ 101 n W p.row (fun q hq => (p.each q hq).reads) (hy ▸ HHE.out)
    rw [hl] at HEg
    have HLg := Aside0.mk hl
    clear hb hk pm hy hl
    go_wp2_with fail
    refine (HEg _ _ _ (HLg.out ▸ Pg_11.out.ft)).mono ?_
    rintro e w12 ⟨rfl, hb⟩
    have Xa_12 := Aside0.mk (blk_later (Xa_11.out) hb)
    have Xx_12 := Aside0.mk (blk_later (Xx_11.out) hb)
    have Pw_12 := Aside0.mk ((Pw_11.out).below hb)
    have Pg_12 := Aside0.mk ((Pg_11.out).below hb)
    have HB_12 := Aside0.mk (below_step (HB_11.out) hb)
    have Z12 := Aside0.mk (show w11.heap.size ≤ w12.heap.size by have := hb.size; (try simp at this); omega)
    clear hb
    have ka_0 : w12.cell? ⟨w.heap.size, 0, none⟩ = some (.int .i64 a0) := (blk_cell Xa_12.out 0).trans rfl
    have ka_1 : w12.cell? ⟨w.heap.size, 1, none⟩ = some (.int .i64 a1) := (blk_cell Xa_12.out 1).trans rfl
    have ka_2 : w12.cell? ⟨w.heap.size, 2, none⟩ = some (.slice A2 l2.length c2) := (blk_cell Xa_12.out 2).trans rfl
    have ka_3 : w12.cell? ⟨w.heap.size, 3, none⟩ = some (.slice A3 l3.length c3) := (blk_cell Xa_12.out 3).trans rfl
    have ka_4 : w12.cell? ⟨w.heap.size, 4, none⟩ = some (.int .i64 d4) := (blk_cell Xa_12.out 4).trans rfl
    have ka_5 : w12.cell? ⟨w.heap.size, 5, none⟩ = some (.bool d5) := (blk_cell Xa_12.out 5).trans rfl
    have ka_6 : w12.cell? ⟨w.heap.size, 6, none⟩ = some (.int .i64 d6) := (blk_cell Xa_12.out 6).trans rfl
    have sba := blk_lt Xa_12.out
    go_wp2_with fail
    refine (TB _ (Kd.C_below HR2.out (HB_12.out)) (Kd.C_below HR3.out (HB_12.out))).mono ?_
    rintro e w13 ⟨v2, v3, rfl, o2, o3, hb⟩
    obtain ⟨B2', f2', rfl, q2, p2⟩ := Kd.R_reads o2
    obtain ⟨B3', f3', rfl, q3, p3⟩ := Kd.R_reads o3
    have Xa_13 := Aside0.mk (blk_later (Xa_12.out) hb)
    have Xx_13 := Aside0.mk (blk_later (Xx_12.out) hb)
    have Pw_13 := Aside0.mk ((Pw_12.out).below hb)
    have Pg_13 := Aside0.mk ((Pg_12.out).below hb)
    have HB_13 := Aside0.mk (below_step (HB_12.out) hb)
    have Z13 := Aside0.mk (show w12.heap.size ≤ w13.heap.size by have := hb.size; (try simp at this); omega)
    clear hb o2 o3
    clear ka_0 ka_1 ka_2 ka_3 ka_4 ka_5 ka_6 sba
    go_wp2_with fail
    refine (IM _ _ _ _ _ (tz_below HT.out (HB_13.out)) p2 q2 p3 q3).mono ?_
    rintro e w14 ⟨v, hs, rfl, hm, hr, hq, hd, hb⟩
    obtain ⟨Ah, ch, rfl⟩ := Kd.R_slice hr
    have Xa_14 := Aside0.mk (blk_later (Xa_13.out) hb)
    have Xx_14 := Aside0.mk (blk_later (Xx_13.out) hb)
    have Pw_14 := Aside0.mk ((Pw_13.out).below hb)
    have Pg_14 := Aside0.mk ((Pg_13.out).below hb)
    have HB_14 := Aside0.mk (below_step (HB_13.out) hb)
    have Z14 := Aside0.mk (show w13.heap.size ≤ w14.heap.size by have := hb.size; (try simp at this); omega)
    have Ph_14 := Aside0.mk (FT.of (show w.heap.size ≤ w13.heap.size by have := Z1.out; have := Z2.out; have := Z3.out; have := Z4.out; have := Z5.out; have := Z6.out; have := Z8.out; have := Z9.out; have := Z10.out; have := Z11.out; have := Z12.out; have := Z13.out; have := Z14.out; omega) hr hq)
    have HMh := Aside0.mk hm
    clear hb hr hq hd hm p2 p3 q2 q3
    go_wp2_with fail
    refine (EQ _ _ _ _ _ _ _ _ _ _ _ _ (Ph_14.out) (Pw_14.out) HMh.out HMw.out).mono ?_
    rintro e w15 ⟨rfl, hb⟩
    have Xa_15 := Aside0.mk (blk_later (Xa_14.out) hb)
    have Xx_15 := Aside0.mk (blk_later (Xx_14.out) hb)
    have Pw_15 := Aside0.mk ((Pw_14.out).below hb)
    have Pg_15 := Aside0.mk ((Pg_14.out).below hb)
    have Ph_15 := Aside0.mk ((Ph_14.out).below hb)
    have HB_15 := Aside0.mk (below_step (HB_14.out) hb)
    have Z15 := Aside0.mk (show w14.heap.size ≤ w15.heap.size by have := hb.size; (try simp at this); omega)
    clear hb
    go_wp2_with fail
    refine (HEg _ _ _ (HLg.out ▸ Pg_15.out.ft)).mono ?_
    rintro e w16 ⟨rfl, hb⟩
    have Xa_16 := Aside0.mk (blk_later (Xa_15.out) hb)
    have Xx_16 := Aside0.mk (blk_later (Xx_15.out) hb)
    have Pw_16 := Aside0.mk ((Pw_15.out).below hb)
    have Pg_16 := Aside0.mk ((Pg_15.out).below hb)
    have Ph_16 := Aside0.mk ((Ph_15.out).below hb)
    have HB_16 := Aside0.mk (below_step (HB_15.out) hb)
    have Z16 := Aside0.mk (show w15.heap.size ≤ w16.heap.size by have := hb.size; (try simp at this); omega)
    clear hb
    go_wp2_with fail
    go_ret
    exact ⟨rfl, HB_16.out⟩

/-! The number of bits that are set, and the program's way to count them. -/
/-- how many of the first n bits of x are set -/
def pcn : Nat → Nat → Nat
  | 0, _ => 0
  | n + 1, x => x % 2 + pcn n (x / 2)
/-- the same mask in each of n bytes -/
def rep (m : Nat) : Nat → Nat
  | 0 => 0
  | n + 1 => m + 256 * rep m n
theorem and_split (a b m M : Nat) (ha : a < 256) (hm : m < 256) : (a + 256 * b) &&& (m + 256 * M) = (a &&& m) + 256 * (b &&& M) := by
  apply Nat.eq_of_testBit_eq
  intro i
  have e : ∀ x y : Nat, x < 256 → (x + 256 * y).testBit i = if i < 8 then x.testBit i else y.testBit (i - 8) := by
    intro x y hx
    rw [Nat.add_comm, show 256 * y = 2 ^ 8 * y by rfl, Nat.testBit_two_pow_mul_add y (by simpa using hx)]
  have hl : (a &&& m) < 256 := Nat.and_lt_two_pow (n := 8) a hm
  rw [Nat.testBit_and, e a b ha, e m M hm, e _ _ hl]
  split <;> rw [Nat.testBit_and]
def st1 (x : Nat) : Nat := (x / 2 &&& 85) + (x &&& 85)
def st2 (x : Nat) : Nat := (x / 4 &&& 51) + (x &&& 51)
def st3 (x : Nat) : Nat := (x / 16 + x) &&& 15
def s1 (n x : Nat) : Nat := (x / 2 &&& rep 85 n) + (x &&& rep 85 n)
def s2 (n x : Nat) : Nat := (x / 4 &&& rep 51 n) + (x &&& rep 51 n)
def s3 (n x : Nat) : Nat := (x / 16 + x) &&& rep 15 n
theorem byte1 : ∀ a : Fin 256, ∀ c : Fin 2, (((a.val / 2 + 128 * c.val) &&& 85) = (a.val / 2 &&& 85)) ∧ st1 a.val < 256 := by decide +kernel
theorem byte2 : ∀ a : Fin 256, ∀ c : Fin 4, (((a.val / 4 + 64 * c.val) &&& 51) = (a.val / 4 &&& 51)) ∧ st2 a.val < 256 := by decide +kernel
theorem byte3 : ∀ a : Fin 256, ∀ c : Fin 5, a.val % 16 ≤ 4 → a.val / 16 ≤ 4 → ((a.val / 16 + a.val + 16 * c.val) &&& 15) = st3 a.val ∧ a.val / 16 + a.val + 16 * c.val < 256 := by decide +kernel
theorem byteAll : ∀ a : Fin 256, st3 (st2 (st1 a.val)) = pcn 8 a.val ∧ pcn 8 a.val ≤ 8 ∧ st2 (st1 a.val) % 16 ≤ 4 ∧ st2 (st1 a.val) / 16 ≤ 4 := by decide +kernel
theorem s1_step (n a b : Nat) (ha : a < 256) : s1 (n + 1) (a + 256 * b) = st1 a + 256 * s1 n b := by
  unfold s1
  have e : (a + 256 * b) / 2 = (a / 2 + 128 * (b % 2)) + 256 * (b / 2) := by omega
  have h := byte1 ⟨a, ha⟩ ⟨b % 2, by omega⟩
  rw [e, rep, and_split _ _ _ _ (by omega) (by omega), and_split _ _ _ _ ha (by omega), h.1]
  unfold st1
  simp only
  omega
theorem s2_step (n a b : Nat) (ha : a < 256) : s2 (n + 1) (a + 256 * b) = st2 a + 256 * s2 n b := by
  unfold s2
  have e : (a + 256 * b) / 4 = (a / 4 + 64 * (b % 4)) + 256 * (b / 4) := by omega
  have h := byte2 ⟨a, ha⟩ ⟨b % 4, by omega⟩
  rw [e, rep, and_split _ _ _ _ (by omega) (by omega), and_split _ _ _ _ ha (by omega), h.1]
  unfold st2
  simp only
  omega
theorem s3_step (n a b : Nat) (ha : a < 256) (h1 : a % 16 ≤ 4) (h2 : a / 16 ≤ 4) (h3 : b % 16 ≤ 4) : s3 (n + 1) (a + 256 * b) = st3 a + 256 * s3 n b := by
  unfold s3
  have e : (a + 256 * b) / 16 + (a + 256 * b) = (a / 16 + a + 16 * (b % 16)) + 256 * (b / 16 + b) := by omega
  have h := byte3 ⟨a, ha⟩ ⟨b % 16, by omega⟩ h1 h2
  rw [e, rep, and_split _ _ _ _ h.2 (by omega), h.1]
/-- the bytes of the three first stages: each tells its own count -/
def cnt : Nat → Nat → Nat
  | 0, _ => 0
  | n + 1, x => pcn 8 (x % 256) + 256 * cnt n (x / 256)
theorem stages (n : Nat) : ∀ x : Nat, x < 256 ^ n → s3 n (s2 n (s1 n x)) = cnt n x ∧ s2 n (s1 n x) % 16 ≤ 4 := by
  induction n with
  | zero =>
    intro x hx
    obtain rfl : x = 0 := by simpa using hx
    decide
  | succ n ih =>
    intro x hx
    have hb : x / 256 < 256 ^ n := by rw [Nat.pow_succ] at hx; omega
    obtain ⟨i1, i2⟩ := ih (x / 256) hb
    have e : x = x % 256 + 256 * (x / 256) := by omega
    have hA := byteAll ⟨x % 256, by omega⟩
    have b1 := (byte1 ⟨x % 256, by omega⟩ 0).2
    have b2 := (byte2 ⟨st1 (x % 256), b1⟩ 0).2
    rw [e, s1_step _ _ _ (by omega), s2_step _ _ _ b1]
    refine ⟨?_, ?_⟩
    · rw [s3_step _ _ _ b2 hA.2.2.1 hA.2.2.2 i2, i1, hA.1]
      simp only [cnt]
      rw [show (x % 256 + 256 * (x / 256)) % 256 = x % 256 by omega, show (x % 256 + 256 * (x / 256)) / 256 = x / 256 by omega]
    · have := hA.2.2.1
      simp only at this
      omega
theorem pcn_byte (n : Nat) : ∀ x : Nat, pcn (8 + n) x = pcn 8 (x % 256) + pcn n (x / 256) := by
  intro x
  have key : ∀ m y : Nat, pcn (m + n) y = pcn m (y % 2 ^ m) + pcn n (y / 2 ^ m) := by
    intro m
    induction m with
    | zero => intro y; simp [pcn]
    | succ m ih =>
      intro y
      rw [show m + 1 + n = (m + n) + 1 by omega]
      simp only [pcn]
      rw [ih (y / 2), Nat.div_div_eq_div_mul, show 2 * 2 ^ m = 2 ^ (m + 1) by rw [Nat.pow_succ]; omega]
      have h1 : y % 2 ^ (m + 1) % 2 = y % 2 := Nat.mod_mod_of_dvd _ ⟨2 ^ m, by rw [Nat.pow_succ]; omega⟩
      have h2 : y % 2 ^ (m + 1) / 2 = y / 2 % 2 ^ m := by
        rw [Nat.pow_succ, Nat.mul_comm, Nat.mod_mul_right_div_self]
      rw [h1, h2]
      omega
  exact key 8 x
theorem div1 (b t : Nat) (h : b < 256) : (b + 256 * t) / 256 = t := by omega
theorem div2 (b c t : Nat) (h : b < 256) (h2 : c < 256) : (b + 256 * (c + 256 * t)) / 65536 = t := by
  rw [show 65536 = 256 * 256 by rfl, ← Nat.div_div_eq_div_mul, div1 _ _ h, div1 _ _ h2]
theorem div4 (b c d e t : Nat) (h : b < 256) (h2 : c < 256) (h3 : d < 256) (h4 : e < 256) : (b + 256 * (c + 256 * (d + 256 * (e + 256 * t)))) / 4294967296 = t := by
  rw [show 4294967296 = 65536 * 65536 by rfl, ← Nat.div_div_eq_div_mul, div2 _ _ _ h h2, div2 _ _ _ h3 h4]
theorem lt_step (b t N : Nat) (h : b < 256) (ht : t < N) : b + 256 * t < 256 * N := by omega
theorem lt8 (b0 b1 b2 b3 b4 b5 b6 b7 : Nat) (h0 : b0 < 256) (h1 : b1 < 256) (h2 : b2 < 256) (h3 : b3 < 256) (h4 : b4 < 256) (h5 : b5 < 256) (h6 : b6 < 256) (h7 : b7 < 256) : b0 + 256 * (b1 + 256 * (b2 + 256 * (b3 + 256 * (b4 + 256 * (b5 + 256 * (b6 + 256 * b7)))))) < 18446744073709551616 :=
  lt_step _ _ _ h0 (lt_step _ _ _ h1 (lt_step _ _ _ h2 (lt_step _ _ _ h3 (lt_step _ _ _ h4 (lt_step _ _ _ h5 (lt_step _ _ _ h6 h7))))))
theorem add1 (b0 b1 b2 b3 b4 b5 b6 b7 : Nat) : (b0 + 256 * (b1 + 256 * (b2 + 256 * (b3 + 256 * (b4 + 256 * (b5 + 256 * (b6 + 256 * b7))))))) + (b1 + 256 * (b2 + 256 * (b3 + 256 * (b4 + 256 * (b5 + 256 * (b6 + 256 * b7)))))) = (b0 + b1) + 256 * ((b1 + b2) + 256 * ((b2 + b3) + 256 * ((b3 + b4) + 256 * ((b4 + b5) + 256 * ((b5 + b6) + 256 * ((b6 + b7) + 256 * b7)))))) := by omega
theorem add2 (b0 b1 b2 b3 b4 b5 b6 b7 : Nat) : (b0 + 256 * (b1 + 256 * (b2 + 256 * (b3 + 256 * (b4 + 256 * (b5 + 256 * (b6 + 256 * b7))))))) + (b2 + 256 * (b3 + 256 * (b4 + 256 * (b5 + 256 * (b6 + 256 * b7))))) = (b0 + b2) + 256 * ((b1 + b3) + 256 * ((b2 + b4) + 256 * ((b3 + b5) + 256 * ((b4 + b6) + 256 * ((b5 + b7) + 256 * (b6 + 256 * b7)))))) := by omega
theorem add4 (b0 b1 b2 b3 b4 b5 b6 b7 : Nat) : (b0 + 256 * (b1 + 256 * (b2 + 256 * (b3 + 256 * (b4 + 256 * (b5 + 256 * (b6 + 256 * b7))))))) + (b4 + 256 * (b5 + 256 * (b6 + 256 * b7))) = (b0 + b4) + 256 * ((b1 + b5) + 256 * ((b2 + b6) + 256 * ((b3 + b7) + 256 * (b4 + 256 * (b5 + 256 * (b6 + 256 * b7)))))) := by omega
theorem mod128 (b t : Nat) (h : b < 128) : (b + 256 * t) % 128 = b := by omega
/-- the last three stages add the bytes -/
theorem add_bytes (b0 b1 b2 b3 b4 b5 b6 b7 : Nat) (h0 : b0 ≤ 8) (h1 : b1 ≤ 8) (h2 : b2 ≤ 8) (h3 : b3 ≤ 8) (h4 : b4 ≤ 8) (h5 : b5 ≤ 8) (h6 : b6 ≤ 8) (h7 : b7 ≤ 8) (x y z : Nat)
    (hx : x = b0 + 256 * (b1 + 256 * (b2 + 256 * (b3 + 256 * (b4 + 256 * (b5 + 256 * (b6 + 256 * b7)))))))
    (hy : y = x + x / 256) (hz : z = y + y / 65536) : z + z / 4294967296 < 18446744073709551616 ∧ y < 18446744073709551616 ∧ z < 18446744073709551616 ∧ (z + z / 4294967296) % 128 = b0 + b1 + b2 + b3 + b4 + b5 + b6 + b7 := by
  rw [hx, div1 _ _ (by omega), add1] at hy
  rw [hy, div2 _ _ _ (by omega) (by omega), add2] at hz
  rw [hz, div4 _ _ _ _ _ (by omega) (by omega) (by omega) (by omega), add4, hy, mod128 _ _ (by omega)]
  refine ⟨lt8 _ _ _ _ _ _ _ _ ?_ ?_ ?_ ?_ ?_ ?_ ?_ ?_, lt8 _ _ _ _ _ _ _ _ ?_ ?_ ?_ ?_ ?_ ?_ ?_ ?_, lt8 _ _ _ _ _ _ _ _ ?_ ?_ ?_ ?_ ?_ ?_ ?_ ?_, ?_⟩ <;> omega

theorem and64 (a M : Nat) (ha : a < 18446744073709551616) (hM : M < 18446744073709551616) (b : Int) (hb : b = (a : Int)) (c : Int) (hc : c = (M : Int)) : Go.bits .and .u64 b c = ((a &&& M : Nat) : Int) := by
  subst hb hc
  exact u64_and_nat a M ha hM
theorem wrap64u (a : Nat) (ha : a < 18446744073709551616) (b : Int) (hb : b = (a : Int)) : IntKind.u64.wrap b = (a : Int) := by
  subst hb
  rw [IntKind.wrap_u64]
  omega
theorem rep85 : rep 85 8 = 6148914691236517205 := by decide
theorem rep51 : rep 51 8 = 3689348814741910323 := by decide
theorem rep15 : rep 15 8 = 1085102592571150095 := by decide
theorem s1_lt (m : Nat) : s1 8 m < 18446744073709551616 := by
  have h1 : m / 2 &&& rep 85 8 ≤ rep 85 8 := Nat.and_le_right
  have h2 : m &&& rep 85 8 ≤ rep 85 8 := Nat.and_le_right
  rw [rep85] at h1 h2
  unfold s1
  rw [rep85]; omega
theorem s2_lt (m : Nat) : s2 8 m ≤ 7378697629483820646 := by
  have h1 : m / 4 &&& rep 51 8 ≤ rep 51 8 := Nat.and_le_right
  have h2 : m &&& rep 51 8 ≤ rep 51 8 := Nat.and_le_right
  rw [rep51] at h1 h2
  unfold s2
  rw [rep51]; omega
theorem pcn_zero (x : Nat) : pcn 0 x = 0 := rfl
theorem cnt8 (x : Nat) : ∃ b0 b1 b2 b3 b4 b5 b6 b7 : Nat, (b0 ≤ 8 ∧ b1 ≤ 8 ∧ b2 ≤ 8 ∧ b3 ≤ 8 ∧ b4 ≤ 8 ∧ b5 ≤ 8 ∧ b6 ≤ 8 ∧ b7 ≤ 8) ∧ cnt 8 x = b0 + 256 * (b1 + 256 * (b2 + 256 * (b3 + 256 * (b4 + 256 * (b5 + 256 * (b6 + 256 * b7)))))) ∧ pcn 64 x = b0 + b1 + b2 + b3 + b4 + b5 + b6 + b7 := by
  have hb : ∀ y : Nat, pcn 8 (y % 256) ≤ 8 := fun y => (byteAll ⟨y % 256, by omega⟩).2.1
  refine ⟨_, _, _, _, _, _, _, _, ⟨hb x, hb (x / 256), hb (x / 256 / 256), hb (x / 256 / 256 / 256), hb (x / 256 / 256 / 256 / 256), hb (x / 256 / 256 / 256 / 256 / 256), hb (x / 256 / 256 / 256 / 256 / 256 / 256), hb (x / 256 / 256 / 256 / 256 / 256 / 256 / 256)⟩, rfl, ?_⟩
  rw [show (64 : Nat) = 8 + 56 by rfl, pcn_byte, show (56 : Nat) = 8 + 48 by rfl, pcn_byte, show (48 : Nat) = 8 + 40 by rfl, pcn_byte, show (40 : Nat) = 8 + 32 by rfl, pcn_byte, show (32 : Nat) = 8 + 24 by rfl, pcn_byte, show (24 : Nat) = 8 + 16 by rfl, pcn_byte, show (16 : Nat) = 8 + 8 by rfl, pcn_byte]
  rw [show pcn 8 (x / 256 / 256 / 256 / 256 / 256 / 256 / 256) = pcn (8 + 0) (x / 256 / 256 / 256 / 256 / 256 / 256 / 256) by rfl, pcn_byte, pcn_zero]
  omega
theorem h1_f (m : Nat) (hm : m < 18446744073709551616) : IntKind.u64.wrap ((Go.bits .and .u64 ((m : Int) / 2) 6148914691236517205) + (Go.bits .and .u64 (m : Int) 6148914691236517205)) = ((s1 8 m : Nat) : Int) := by
  rw [and64 (m / 2) (rep 85 8) (by omega) (by rw [rep85]; omega) _ (by omega) _ (by rw [rep85]; omega), and64 m (rep 85 8) hm (by rw [rep85]; omega) _ rfl _ (by rw [rep85]; omega)]
  exact wrap64u _ (s1_lt m) _ (by unfold s1; push_cast; rfl)
theorem h2_f (m : Nat) (hm : m < 18446744073709551616) : IntKind.u64.wrap ((Go.bits .and .u64 ((m : Int) / 4) 3689348814741910323) + (Go.bits .and .u64 (m : Int) 3689348814741910323)) = ((s2 8 m : Nat) : Int) := by
  have := s2_lt m
  rw [and64 (m / 4) (rep 51 8) (by omega) (by rw [rep51]; omega) _ (by omega) _ (by rw [rep51]; omega), and64 m (rep 51 8) hm (by rw [rep51]; omega) _ rfl _ (by rw [rep51]; omega)]
  exact wrap64u _ (by omega) _ (by unfold s2; push_cast; rfl)
theorem h3_f (m : Nat) (hm : m ≤ 7378697629483820646) : Go.bits .and .u64 (IntKind.u64.wrap ((m : Int) / 16 + (m : Int))) 1085102592571150095 = ((s3 8 m : Nat) : Int) := by
  rw [wrap64u (m / 16 + m) (by omega) _ (by omega)]
  exact and64 _ _ (by omega) (by rw [rep15]; omega) _ rfl _ (by rw [rep15]; omega)
theorem h4_f (x d : Nat) (h : x + x / d < 18446744073709551616) : IntKind.u64.wrap ((x : Int) + (x : Int) / (d : Int)) = ((x + x / d : Nat) : Int) := wrap64u _ h _ (by push_cast; rfl)
theorem h5_f (n : Nat) (h : n < 18446744073709551616) : Go.bits .and .i64 (wrap64 (n : Int)) 127 = ((n % 128 : Nat) : Int) := by
  rw [i64_and127]
  unfold wrap64
  omega
set_option maxHeartbeats 4000000 in
theorem ones_f (m : Nat) (hm : m < 18446744073709551616) : bits_OnesCount64.f (m : Int) = some ((pcn 64 m : Nat) : Int) := by
  have hs := (stages 8 m (by simpa using hm)).1
  obtain ⟨b0, b1, b2, b3, b4, b5, b6, b7, ⟨q0, q1, q2, q3, q4, q5, q6, q7⟩, hc, hp⟩ := cnt8 m
  rw [hc] at hs
  generalize hx : b0 + 256 * (b1 + 256 * (b2 + 256 * (b3 + 256 * (b4 + 256 * (b5 + 256 * (b6 + 256 * b7)))))) = x at hs
  obtain ⟨a1, a2, a3, a4⟩ := add_bytes b0 b1 b2 b3 b4 b5 b6 b7 q0 q1 q2 q3 q4 q5 q6 q7 x (x + x / 256) ((x + x / 256) + (x + x / 256) / 65536) hx.symm rfl rfl
  rw [hp, ← a4]
  clear q0 q1 q2 q3 q4 q5 q6 q7 hc hp a4 hx
  unfold bits_OnesCount64.f
  simp only [h1_f m hm, h2_f _ (s1_lt m), h3_f _ (s2_lt _), hs]
  rw [show (256 : Int) = ((256 : Nat) : Int) by rfl, h4_f x 256 a2, show (65536 : Int) = ((65536 : Nat) : Int) by rfl, h4_f _ 65536 a3, show (4294967296 : Int) = ((4294967296 : Nat) : Int) by rfl, h4_f _ 4294967296 a1, h5_f _ a1]

/-! Figures: both programs ask the same. -/
def Rise (l : List Int) : Prop := ∀ j : Nat, 1 ≤ j → j < l.length → rd l ((j : Int) - 1) < rd l j
def Within (l : List Int) (lo hi : Int) : Prop := ∀ x ∈ l, lo ≤ x ∧ x ≤ hi
theorem w64 (x : Int) (h1 : -9223372036854775808 ≤ x) (h2 : x ≤ 9223372036854775807) : wrap64 x = x := by unfold wrap64; omega

theorem rd_mem {l : List Int} {j : Nat} (h : j < l.length) : rd l (j : Int) ∈ l := by
  have e : rd l (j : Int) = l[j] := by simp [rd, h]
  rw [e]; exact List.getElem_mem h
theorem mem_rd {l : List Int} {x : Int} (h : x ∈ l) : ∃ j : Nat, j < l.length ∧ rd l (j : Int) = x := by
  obtain ⟨j, hj, rfl⟩ := List.getElem_of_mem h
  exact ⟨j, hj, by simp [rd, hj]⟩

theorem impl_within_f (a lo hi : Int) : impl_within.f a lo hi = some (decide (lo ≤ a) && decide (a ≤ hi)) := by
  unfold impl_within.f
  by_cases h : lo ≤ a <;> simp [h]
theorem spec_l1In_f (a lo hi : Int) : spec_l1In.f a lo hi = some (decide (lo ≤ a) && decide (a ≤ hi)) := by
  unfold spec_l1In.f
  by_cases h : lo ≤ a
  · rw [if_pos h]; simp [h]
  · rw [if_neg (by omega)]; simp [h]


theorem impl_rising_l (l : List Int) (hn : l.length ≤ 4611686018427387904) : ∀ (d i k : Nat), 1 ≤ i → i + d = max l.length i → d < k → ∃ b, impl_isRising.l0 k l (i : Int) = some b ∧ (b = true ↔ ∀ j : Nat, i ≤ j → j < l.length → rd l ((j : Int) - 1) < rd l j) := by
  intro d
  induction d with
  | zero =>
    intro i k h1 hi hk
    obtain ⟨k, rfl⟩ : ∃ m, k = m + 1 := ⟨k - 1, by omega⟩
    refine ⟨true, ?_, ?_⟩
    · simp only [impl_isRising.l0]; rw [if_neg (by omega)]
    · simp; intro j hj hl; omega
  | succ d ih =>
    intro i k h1 hi hk
    obtain ⟨k, rfl⟩ : ∃ m, k = m + 1 := ⟨k - 1, by omega⟩
    have hlt : (i : Int) < (l.length : Int) := by omega
    simp only [impl_isRising.l0]
    rw [if_pos hlt, if_pos (by omega), w64 _ (by omega) (by omega), if_pos (by omega), if_pos (by omega)]
    by_cases hc : rd l (i : Int) ≤ rd l ((i : Int) - 1)
    · rw [if_pos hc]
      refine ⟨false, rfl, ?_⟩
      simp
      exact ⟨i, Nat.le_refl _, by omega, by omega⟩
    · rw [if_neg hc, w64 _ (by omega) (by omega)]
      obtain ⟨b, hb, hiff⟩ := ih (i + 1) k (by omega) (by omega) (by omega)
      refine ⟨b, by exact_mod_cast hb, hiff.trans ⟨fun h j hj hl => ?_, fun h j hj hl => h j (by omega) hl⟩⟩
      by_cases e : j = i
      · subst e; omega
      · exact h j (by omega) hl
theorem impl_rising (l : List Int) (hn : l.length ≤ 4611686018427387904) (k : Nat) (hk : l.length + 1 ≤ k) : ∃ b, impl_isRising.f k l = some b ∧ (b = true ↔ Rise l) := by
  obtain ⟨b, hb, hiff⟩ := impl_rising_l l hn (max l.length 1 - 1) 1 k (by omega) (by omega) (by omega)
  exact ⟨b, hb, hiff⟩
theorem impl_areWithin_f (l : List Int) (lo hi : Int) : ∃ b, impl_areWithin.f l lo hi = some b ∧ (b = true ↔ Within l lo hi) := by
  refine ⟨_, rfl, ?_⟩
  unfold Within awP
  simp only [Bool.not_eq_true', List.any_eq_false]
  constructor
  · intro h x hx
    have := h x hx
    simpa using this
  · intro h x hx
    have := h x hx
    simp [this.1, this.2]

theorem spec_l1All_l (l : List Int) (lo hi : Int) (hn : l.length ≤ 4611686018427387904) : ∀ (d i k : Nat), i + d = l.length → d < k → ∃ b, spec_l1All.l0 k lo hi l (l.length : Int) (i : Int) = some b ∧ (b = true ↔ ∀ j : Nat, i ≤ j → j < l.length → lo ≤ rd l j ∧ rd l j ≤ hi) := by
  intro d
  induction d with
  | zero =>
    intro i k hi hk
    obtain ⟨k, rfl⟩ : ∃ m, k = m + 1 := ⟨k - 1, by omega⟩
    refine ⟨true, ?_, ?_⟩
    · simp only [spec_l1All.l0]; rw [if_neg (by omega)]
    · simp; intro j hj hl; omega
  | succ d ih =>
    intro i k hi2 hk
    obtain ⟨k, rfl⟩ : ∃ m, k = m + 1 := ⟨k - 1, by omega⟩
    simp only [spec_l1All.l0]
    rw [if_pos (by omega), if_pos (by omega), if_pos (by omega), spec_l1In_f]
    simp only [Option.bind_some]
    by_cases hc : lo ≤ rd l (i : Int) ∧ rd l (i : Int) ≤ hi
    · rw [if_pos (by simp [hc.1, hc.2]), w64 _ (by omega) (by omega)]
      obtain ⟨b, hb, hiff⟩ := ih (i + 1) k (by omega) (by omega)
      refine ⟨b, by exact_mod_cast hb, hiff.trans ⟨fun h j hj hl => ?_, fun h j hj hl => h j (by omega) hl⟩⟩
      by_cases e : j = i
      · subst e; exact hc
      · exact h j (by omega) hl
    · rw [if_neg (by simpa using hc)]
      refine ⟨false, rfl, ?_⟩
      simp
      exact ⟨i, Nat.le_refl _, by omega, by omega⟩
theorem spec_l1All_f (l : List Int) (lo hi : Int) (hn : l.length ≤ 4611686018427387904) (k : Nat) (hk : l.length + 1 ≤ k) : ∃ b, spec_l1All.f k l lo hi = some b ∧ (b = true ↔ Within l lo hi) := by
  obtain ⟨b, hb, hiff⟩ := spec_l1All_l l lo hi hn l.length 0 k (by omega) (by omega)
  refine ⟨b, hb, hiff.trans ⟨fun h x hx => ?_, fun h j _ hl => h _ (rd_mem hl)⟩⟩
  obtain ⟨j, hj, rfl⟩ := mem_rd hx
  exact h j (by omega) hj
theorem spec_fiRises_l (l : List Int) (hn : l.length ≤ 4611686018427387904) : ∀ (d i k : Nat), 1 ≤ i → i + d = max l.length i → d < k → ∃ b, spec_fiRises.l0 k l (i : Int) = some b ∧ (b = true ↔ ∀ j : Nat, i ≤ j → j < l.length → rd l ((j : Int) - 1) < rd l j) := by
  intro d
  induction d with
  | zero =>
    intro i k h1 hi hk
    obtain ⟨k, rfl⟩ : ∃ m, k = m + 1 := ⟨k - 1, by omega⟩
    refine ⟨true, ?_, ?_⟩
    · simp only [spec_fiRises.l0]; rw [if_neg (by omega)]
    · simp; intro j hj hl; omega
  | succ d ih =>
    intro i k h1 hi hk
    obtain ⟨k, rfl⟩ : ∃ m, k = m + 1 := ⟨k - 1, by omega⟩
    have hlt : (i : Int) < (l.length : Int) := by omega
    simp only [spec_fiRises.l0]
    rw [if_pos hlt, w64 ((i : Int) - 1) (by omega) (by omega), if_pos (by omega), if_pos (by omega), if_pos (by omega)]
    by_cases hc : rd l ((i : Int) - 1) ≥ rd l (i : Int)
    · rw [if_pos hc]
      refine ⟨false, rfl, ?_⟩
      simp
      exact ⟨i, Nat.le_refl _, by omega, by omega⟩
    · rw [if_neg hc, w64 _ (by omega) (by omega)]
      obtain ⟨b, hb, hiff⟩ := ih (i + 1) k (by omega) (by omega) (by omega)
      refine ⟨b, by exact_mod_cast hb, hiff.trans ⟨fun h j hj hl => ?_, fun h j hj hl => h j (by omega) hl⟩⟩
      by_cases e : j = i
      · subst e; omega
      · exact h j (by omega) hl
theorem rise_index {l : List Int} (h : Rise l) {lo : Int} (h0 : ∀ x ∈ l, lo ≤ x) : ∀ j : Nat, j < l.length → lo + j ≤ rd l (j : Int) := by
  intro j
  induction j with
  | zero => intro hl; have := h0 _ (rd_mem hl); simpa using this
  | succ j ih =>
    intro hl
    have h1 := ih (by omega)
    have h2 := h (j + 1) (by omega) hl
    rw [show ((j + 1 : Nat) : Int) - 1 = (j : Int) by omega] at h2
    omega
theorem rise_length {l : List Int} {most : Int} (h : Rise l) (hw : Within l 0 most) (hm : 0 ≤ most) : (l.length : Int) ≤ most + 1 := by
  by_cases hz : l.length = 0
  · omega
  · have h1 := rise_index h (lo := 0) (fun x hx => (hw x hx).1) (l.length - 1) (by omega)
    have h2 := (hw _ (rd_mem (j := l.length - 1) (by omega))).2
    omega
theorem spec_fiRises_f (l : List Int) (most : Int) (h0 : 0 ≤ most) (hm : most ≤ 1000) (hn : l.length ≤ 4611686018427387904) (k : Nat) (hk : l.length + 3 ≤ k) : ∃ b, spec_fiRises.f k l most = some b ∧ (b = true ↔ Rise l ∧ Within l 0 most) := by
  unfold spec_fiRises.f
  rw [w64 _ (by omega) (by omega)]
  obtain ⟨k, rfl⟩ : ∃ m, k = m + 1 := ⟨k - 1, by omega⟩
  by_cases hc : (l.length : Int) > most + 1
  · rw [if_pos hc]
    refine ⟨false, by simp [spec_fiRises.j0], ?_⟩
    simp
    intro h1 h2
    have := rise_length h1 h2 h0
    omega
  · rw [if_neg hc]
    obtain ⟨b, hb, hiff⟩ := spec_l1All_f l 0 most hn (k + 1) (by omega)
    rw [hb]
    simp only [Option.bind_some, spec_fiRises.j0]
    cases b with
    | false =>
      refine ⟨false, by simp, ?_⟩
      have : ¬ Within l 0 most := fun z => by simpa using hiff.2 z
      simp
      exact fun _ => this
    | true =>
      rw [if_neg (by simp)]
      obtain ⟨b, hb, hiff2⟩ := spec_fiRises_l l hn (max l.length 1 - 1) 1 k (by omega) (by omega) (by omega)
      exact ⟨b, hb, hiff2.trans ⟨fun h => ⟨h, hiff.1 rfl⟩, fun h => h.1⟩⟩

/-- what a figure is -/
structure FigOK (w h : Int) (l2 l3 : List Int) : Prop where
  w1 : 1 ≤ w
  w4 : w ≤ 4
  h1 : 1 ≤ h
  h4 : h ≤ 4
  r2 : Rise l2
  r3 : Rise l3
  in2 : Within l2 0 (w * (h + 1) - 1)
  in3 : Within l3 0 (h * (w + 1) - 1)
theorem mul_bounds {w h : Int} (h1 : 1 ≤ w) (h2 : w ≤ 4) (h3 : 1 ≤ h) (h4 : h ≤ 4) : 2 ≤ w * (h + 1) ∧ w * (h + 1) ≤ 20 ∧ 2 ≤ h * (w + 1) ∧ h * (w + 1) ≤ 20 ∧ (w + 1) * h = h * (w + 1) ∧ 1 ≤ w * h ∧ w * h ≤ 16 := by
  have hw : w = 1 ∨ w = 2 ∨ w = 3 ∨ w = 4 := by omega
  have hh : h = 1 ∨ h = 2 ∨ h = 3 ∨ h = 4 := by omega
  rcases hw with rfl | rfl | rfl | rfl <;> rcases hh with rfl | rfl | rfl | rfl <;> decide
theorem grid_mul {w h : Int} (h1 : 1 ≤ w) (h2 : w ≤ 4) (h3 : 1 ≤ h) (h4 : h ≤ 4) : wrap64 (w * wrap64 (h + 1)) = w * (h + 1) ∧ wrap64 (h * wrap64 (w + 1)) = h * (w + 1) ∧ wrap64 (wrap64 (w + 1) * h) = h * (w + 1) ∧ wrap64 (w * h) = w * h := by
  obtain ⟨a, b, c, d, e, f, g⟩ := mul_bounds h1 h2 h3 h4
  rw [w64 (h + 1) (by omega) (by omega), w64 (w + 1) (by omega) (by omega), e]
  exact ⟨w64 _ (by omega) (by omega), w64 _ (by omega) (by omega), w64 _ (by omega) (by omega), w64 _ (by omega) (by omega)⟩
theorem impl_isGrid_f (w h : Int) : impl_isGrid.f w h = some (decide (1 ≤ w ∧ w ≤ 4 ∧ 1 ≤ h ∧ h ≤ 4)) := by
  unfold impl_isGrid.f
  rw [impl_within_f]
  simp only [Option.bind_some]
  by_cases hc : 1 ≤ w ∧ w ≤ 4
  · rw [if_pos (by simp [hc.1, hc.2]), impl_within_f]
    simp [hc.1, hc.2]
  · rw [if_neg (by simpa using hc)]
    simp
    intro a b
    exact absurd ⟨a, b⟩ hc
theorem spec_fiGrid_f (w h : Int) : spec_fiGrid.f w h = some (decide (1 ≤ w ∧ w ≤ 4 ∧ 1 ≤ h ∧ h ≤ 4)) := by
  unfold spec_fiGrid.f
  rw [spec_l1In_f]
  simp only [Option.bind_some]
  by_cases hc : 1 ≤ w ∧ w ≤ 4
  · rw [if_pos (by simp [hc.1, hc.2]), spec_l1In_f]
    simp [hc.1, hc.2]
  · rw [if_neg (by simpa using hc)]
    simp
    intro a b
    exact absurd ⟨a, b⟩ hc
theorem impl_IsFigure_f (w h : Int) (l2 l3 : List Int) (h2 : l2.length ≤ 4611686018427387904) (h3 : l3.length ≤ 4611686018427387904) (k : Nat) (hk : l2.length + l3.length + 5 ≤ k) : ∃ b, impl_IsFigure.f k w h l2 l3 = some b ∧ (b = true ↔ FigOK w h l2 l3) := by
  unfold impl_IsFigure.f impl_Figure_grid.f impl_grid_levels.f impl_grid_uprights.f
  rw [impl_isGrid_f]
  simp only [Option.bind_some]
  by_cases hc : 1 ≤ w ∧ w ≤ 4 ∧ 1 ≤ h ∧ h ≤ 4
  · rw [if_pos (by simpa using hc)]
    obtain ⟨e1, e2, _⟩ := grid_mul hc.1 hc.2.1 hc.2.2.1 hc.2.2.2
    obtain ⟨m1, m2, m3, m4, _⟩ := mul_bounds hc.1 hc.2.1 hc.2.2.1 hc.2.2.2
    rw [e1, e2, w64 (w * (h + 1) - 1) (by omega) (by omega), w64 (h * (w + 1) - 1) (by omega) (by omega)]
    obtain ⟨b2, q2, i2⟩ := impl_rising l2 h2 k (by omega)
    obtain ⟨b3, q3, i3⟩ := impl_rising l3 h3 k (by omega)
    obtain ⟨b4, q4, i4⟩ := impl_areWithin_f l2 0 (w * (h + 1) - 1)
    obtain ⟨b5, q5, i5⟩ := impl_areWithin_f l3 0 (h * (w + 1) - 1)
    rw [q2, q3, q4, q5]
    simp only [Option.bind_some]
    refine ⟨b2 && (b3 && (b4 && b5)), by cases b2 <;> cases b3 <;> cases b4 <;> rfl, ?_⟩
    simp only [Bool.and_eq_true, i2, i3, i4, i5]
    exact ⟨fun ⟨a, b, c, d⟩ => ⟨hc.1, hc.2.1, hc.2.2.1, hc.2.2.2, a, b, c, d⟩, fun x => ⟨x.r2, x.r3, x.in2, x.in3⟩⟩
  · rw [if_neg (by simpa using hc)]
    refine ⟨false, rfl, ?_⟩
    simp
    exact fun x => hc ⟨x.w1, x.w4, x.h1, x.h4⟩
theorem spec_fiGood_f (w h : Int) (l2 l3 : List Int) (h2 : l2.length ≤ 4611686018427387904) (h3 : l3.length ≤ 4611686018427387904) (k : Nat) (hk : l2.length + l3.length + 5 ≤ k) : ∃ b, spec_fiGood.f k w h l2 l3 = some b ∧ (b = true ↔ FigOK w h l2 l3) := by
  unfold spec_fiGood.f
  rw [spec_fiGrid_f]
  simp only [Option.bind_some]
  by_cases hc : 1 ≤ w ∧ w ≤ 4 ∧ 1 ≤ h ∧ h ≤ 4
  · rw [if_pos (by simpa using hc)]
    obtain ⟨e1, e2, e3, _⟩ := grid_mul hc.1 hc.2.1 hc.2.2.1 hc.2.2.2
    obtain ⟨m1, m2, m3, m4, _⟩ := mul_bounds hc.1 hc.2.1 hc.2.2.1 hc.2.2.2
    rw [e1, e3, w64 (w * (h + 1) - 1) (by omega) (by omega), w64 (h * (w + 1) - 1) (by omega) (by omega)]
    obtain ⟨b2, q2, i2⟩ := spec_fiRises_f l2 (w * (h + 1) - 1) (by omega) (by omega) h2 k (by omega)
    obtain ⟨b3, q3, i3⟩ := spec_fiRises_f l3 (h * (w + 1) - 1) (by omega) (by omega) h3 k (by omega)
    rw [q2, q3]
    simp only [Option.bind_some]
    refine ⟨b2 && b3, by cases b2 <;> cases b3 <;> rfl, ?_⟩
    simp only [Bool.and_eq_true, i2, i3]
    exact ⟨fun ⟨⟨a, c⟩, b, d⟩ => ⟨hc.1, hc.2.1, hc.2.2.1, hc.2.2.2, a, b, c, d⟩, fun x => ⟨⟨x.r2, x.in2⟩, x.r3, x.in3⟩⟩
  · rw [if_neg (by simpa using hc)]
    refine ⟨false, rfl, ?_⟩
    simp
    exact fun x => hc ⟨x.w1, x.w4, x.h1, x.h4⟩
/-- both tell the same -/
theorem fig_same (w h : Int) (l2 l3 : List Int) (h2 : l2.length ≤ 4611686018427387904) (h3 : l3.length ≤ 4611686018427387904) (k : Nat) (hk : l2.length + l3.length + 5 ≤ k) : ∃ b, impl_IsFigure.f k w h l2 l3 = some b ∧ spec_fiGood.f k w h l2 l3 = some b ∧ (b = true ↔ FigOK w h l2 l3) := by
  obtain ⟨b, q, i⟩ := impl_IsFigure_f w h l2 l3 h2 h3 k hk
  obtain ⟨c, r, j⟩ := spec_fiGood_f w h l2 l3 h2 h3 k hk
  have : b = c := by rw [Bool.eq_iff_iff, i, j]
  subst this
  exact ⟨b, q, r, i⟩

/-! Sets of edges as bits. -/
theorem rise_lt {l : List Int} (h : Rise l) : ∀ (d i : Nat), i + d + 1 < l.length → rd l (i : Int) < rd l ((i + d + 1 : Nat) : Int) := by
  intro d
  induction d with
  | zero =>
    intro i hi
    have := h (i + 1) (by omega) (by omega)
    rw [show ((i + 1 : Nat) : Int) - 1 = (i : Int) by omega] at this
    exact this
  | succ d ih =>
    intro i hi
    have h1 := ih i (by omega)
    have h2 := h (i + (d + 1) + 1) (by omega) hi
    rw [show ((i + (d + 1) + 1 : Nat) : Int) - 1 = ((i + d + 1 : Nat) : Int) by omega] at h2
    omega
theorem rise_pairwise {l : List Int} (h : Rise l) : l.Pairwise (· < ·) := by
  rw [List.pairwise_iff_getElem]
  intro i j hi hj hij
  have := rise_lt h (j - i - 1) i (by omega)
  rw [show i + (j - i - 1) + 1 = j by omega] at this
  simpa [rd, hi, hj] using this
theorem pairwise_rise {l : List Int} (h : l.Pairwise (· < ·)) : Rise l := by
  intro j h1 hj
  rw [List.pairwise_iff_getElem] at h
  have := h (j - 1) j (by omega) hj (by omega)
  have e1 : rd l ((j : Int) - 1) = l[j - 1] := by
    rw [show (j : Int) - 1 = ((j - 1 : Nat) : Int) by omega]
    simp [rd, show j - 1 < l.length by omega]
  have e2 : rd l (j : Int) = l[j] := by simp [rd, hj]
  rw [e1, e2]; exact this
theorem pow64 {x : Nat} (h : x < 64) : 2 ^ x < 18446744073709551616 := Nat.lt_of_lt_of_le (Nat.pow_lt_pow_right (by decide) h) (by decide)
theorem shl_one (x : Int) (h0 : 0 ≤ x) (h : x < 64) : shl .u64 1 x = ((2 ^ x.toNat : Nat) : Int) := by
  unfold shl
  have hx : x.toNat < 64 := by omega
  have e : min x.toNat (IntKind.u64.bits) = x.toNat := Nat.min_eq_left (by show x.toNat ≤ 64; omega)
  rw [e, IntKind.wrap_u64, Int.one_mul]
  have := pow64 hx
  have e2 : ((2 : Int) ^ x.toNat) = ((2 ^ x.toNat : Nat) : Int) := by push_cast; rfl
  rw [e2]
  exact Int.emod_eq_of_lt (Int.natCast_nonneg _) (Int.ofNat_lt.mpr this)
theorem or64 {a b : Nat} (ha : a < 18446744073709551616) (hb : b < 18446744073709551616) : a ||| b < 18446744073709551616 := Nat.or_lt_two_pow (n := 64) ha hb
/-- bits laid on, one after the other -/
def acc (base : Int) (l : List Int) (m : Nat) : Nat := l.foldl (fun m x => m ||| 2 ^ (base + x).toNat) m
theorem acc_lt (base : Int) : ∀ (l : List Int) (m : Nat), m < 18446744073709551616 → (∀ x ∈ l, 0 ≤ base + x ∧ base + x < 64) → acc base l m < 18446744073709551616 := by
  intro l
  induction l with
  | nil => intro m hm _; exact hm
  | cons x l ih =>
    intro m hm h
    have hx := h x (by simp)
    exact ih _ (or64 hm (pow64 (by omega))) (fun y hy => h y (by simp [hy]))
theorem acc_testBit (base : Int) : ∀ (l : List Int) (m j : Nat), (∀ x ∈ l, 0 ≤ base + x) → ((acc base l m).testBit j = true ↔ m.testBit j = true ∨ ((j : Int) - base) ∈ l) := by
  intro l
  induction l with
  | nil => intro m j _; simp [acc]
  | cons x l ih =>
    intro m j h
    have hx := h x (by simp)
    show (acc base l (m ||| 2 ^ (base + x).toNat)).testBit j = true ↔ _
    rw [ih _ j (fun y hy => h y (by simp [hy])), Nat.testBit_or, Nat.testBit_two_pow]
    simp only [Bool.or_eq_true, decide_eq_true_eq, List.mem_cons]
    constructor
    · rintro ((h1 | h1) | h1)
      · exact .inl h1
      · exact .inr (.inl (by omega))
      · exact .inr (.inr h1)
    · rintro (h1 | h1 | h1)
      · exact .inl (.inl h1)
      · exact .inl (.inr (by omega))
      · exact .inr h1
theorem pcn_or (n : Nat) : ∀ (m k : Nat), k < n → m.testBit k = false → pcn n (m ||| 2 ^ k) = pcn n m + 1 := by
  induction n with
  | zero => intro m k h; omega
  | succ n ih =>
    intro m k hk hb
    simp only [pcn]
    cases k with
    | zero =>
      have h0 : m % 2 = 0 := by
        have : m.testBit 0 = decide (m % 2 = 1) := by simp [Nat.testBit_zero]
        rw [this] at hb
        simp at hb
        omega
      have e1 : (m ||| 2 ^ 0) % 2 = 1 := by
        have : (m ||| 2 ^ 0).testBit 0 = true := by simp [Nat.testBit_or]
        rw [Nat.testBit_zero] at this
        simpa using this
      have e2 : (m ||| 2 ^ 0) / 2 = m / 2 := by
        apply Nat.eq_of_testBit_eq
        intro i
        rw [Nat.testBit_div_two, Nat.testBit_or, Nat.testBit_two_pow, Nat.testBit_div_two]
        simp
      rw [e1, e2]; omega
    | succ k =>
      have hb2 : (m / 2).testBit k = false := by rw [Nat.testBit_div_two]; exact hb
      have e1 : (m ||| 2 ^ (k + 1)) % 2 = m % 2 := by
        have h1 : (m ||| 2 ^ (k + 1)).testBit 0 = m.testBit 0 := by rw [Nat.testBit_or, Nat.testBit_two_pow]; simp
        rw [Nat.testBit_zero, Nat.testBit_zero, decide_eq_decide] at h1
        omega
      have e2 : (m ||| 2 ^ (k + 1)) / 2 = m / 2 ||| 2 ^ k := by
        apply Nat.eq_of_testBit_eq
        intro i
        rw [Nat.testBit_div_two, Nat.testBit_or, Nat.testBit_two_pow, Nat.testBit_or, Nat.testBit_div_two, Nat.testBit_two_pow]
        congr 1
        simp
      rw [e1, e2, ih _ k (by omega) hb2]; omega
theorem acc_count (base : Int) : ∀ (l : List Int) (m : Nat), l.Pairwise (· < ·) → (∀ x ∈ l, 0 ≤ base + x ∧ base + x < 64) → (∀ x ∈ l, m.testBit (base + x).toNat = false) → pcn 64 (acc base l m) = pcn 64 m + l.length := by
  intro l
  induction l with
  | nil => intro m _ _ _; simp [acc]
  | cons x l ih =>
    intro m hp h hb
    have hx := h x (by simp)
    rw [List.pairwise_cons] at hp
    show pcn 64 (acc base l (m ||| 2 ^ (base + x).toNat)) = _
    rw [ih _ hp.2 (fun y hy => h y (by simp [hy])) ?_, pcn_or 64 m _ (by omega) (hb x (by simp))]
    · simp; omega
    · intro y hy
      have h1 := hp.1 y hy
      rw [Nat.testBit_or, hb y (by simp [hy]), Nat.testBit_two_pow]
      simp; omega

/-- a figure's matches as bits: level ones first -/
def maskN (w h : Int) (l2 l3 : List Int) : Nat := acc (w * (h + 1)) l3 (acc 0 l2 0)
theorem FigOK.nums {w h : Int} {l2 l3 : List Int} (F : FigOK w h l2 l3) : 2 ≤ w * (h + 1) ∧ w * (h + 1) ≤ 20 ∧ 2 ≤ h * (w + 1) ∧ h * (w + 1) ≤ 20 ∧ (w + 1) * h = h * (w + 1) ∧ 1 ≤ w * h ∧ w * h ≤ 16 := mul_bounds F.w1 F.w4 F.h1 F.h4
theorem FigOK.range2 {w h : Int} {l2 l3 : List Int} (F : FigOK w h l2 l3) : ∀ x ∈ l2, 0 ≤ 0 + x ∧ 0 + x < 64 := fun x hx => by
  have := F.in2 x hx
  have := F.nums
  omega
theorem FigOK.range3 {w h : Int} {l2 l3 : List Int} (F : FigOK w h l2 l3) : ∀ x ∈ l3, 0 ≤ w * (h + 1) + x ∧ w * (h + 1) + x < 64 := fun x hx => by
  have := F.in3 x hx
  have := F.nums
  omega
theorem FigOK.mask_lt {w h : Int} {l2 l3 : List Int} (F : FigOK w h l2 l3) : maskN w h l2 l3 < 18446744073709551616 := acc_lt _ _ _ (acc_lt _ _ _ (by decide) F.range2) F.range3
theorem FigOK.mask_count {w h : Int} {l2 l3 : List Int} (F : FigOK w h l2 l3) : pcn 64 (maskN w h l2 l3) = l2.length + l3.length := by
  unfold maskN
  rw [acc_count _ _ _ (rise_pairwise F.r3) F.range3 ?_, acc_count _ _ _ (rise_pairwise F.r2) F.range2 (fun x hx => by simp)]
  · have : pcn 64 0 = 0 := by decide
    omega
  · intro x hx
    have h1 := F.range3 x hx
    cases hb : (acc 0 l2 0).testBit (w * (h + 1) + x).toNat with
    | false => rfl
    | true =>
      rw [acc_testBit _ _ _ _ (fun y hy => (F.range2 y hy).1)] at hb
      rcases hb with hb | hb
      · simp at hb
      · have := F.in2 _ hb
        have := (F.in3 x hx).1
        omega
/-- the program's set of a figure -/
theorem set_l1 (w h : Int) (hw1 : 1 ≤ w) (hw4 : w ≤ 4) (hh1 : 1 ≤ h) (hh4 : h ≤ 4) (l : List Int) (hl : ∀ x ∈ l, 0 ≤ w * (h + 1) + x ∧ w * (h + 1) + x < 64) (hn : l.length ≤ 4611686018427387904) (L2 L3 : List Int) : ∀ (d i k m : Nat), i + d = l.length → d < k → m < 18446744073709551616 →
    impl_Figure_set.l1 k (m : Int) l (l.length : Int) (i : Int) w h L2 L3 = some ((acc (w * (h + 1)) (l.drop i) m : Nat) : Int) := by
  intro d
  induction d with
  | zero =>
    intro i k m hi hk hm
    obtain ⟨k, rfl⟩ : ∃ q, k = q + 1 := ⟨k - 1, by omega⟩
    simp only [impl_Figure_set.l1]
    rw [if_neg (by omega), List.drop_of_length_le (by omega)]
    rfl
  | succ d ih =>
    intro i k m hi hk hm
    obtain ⟨k, rfl⟩ : ∃ q, k = q + 1 := ⟨k - 1, by omega⟩
    simp only [impl_Figure_set.l1]
    have hx := hl _ (rd_mem (l := l) (j := i) (by omega))
    obtain ⟨e1, _⟩ := grid_mul hw1 hw4 hh1 hh4
    obtain ⟨m1, m2, _⟩ := mul_bounds hw1 hw4 hh1 hh4
    rw [if_pos (by omega), if_pos (by omega), if_pos (by omega)]
    simp only [impl_Figure_grid.f, impl_grid_levels.f, Option.bind_some]
    rw [e1, w64 (w * (h + 1) + _) (by omega) (by omega), if_pos hx.1, shl_one _ hx.1 hx.2, u64_or_nat _ _ hm (pow64 (by omega)), w64 ((i : Int) + 1) (by omega) (by omega)]
    have := ih (i + 1) k (m ||| 2 ^ (w * (h + 1) + rd l (i : Int)).toNat) (by omega) (by omega) (or64 hm (pow64 (by omega)))
    rw [show ((i : Int) + 1) = ((i + 1 : Nat) : Int) by omega, this]
    rw [List.drop_eq_getElem_cons (show i < l.length by omega)]
    have e : rd l (i : Int) = l[i] := by simp [rd, show i < l.length by omega]
    rw [e]
    rfl
theorem set_l0 (w h : Int) (hw1 : 1 ≤ w) (hw4 : w ≤ 4) (hh1 : 1 ≤ h) (hh4 : h ≤ 4) (l L2 L3 : List Int) (hl : ∀ x ∈ l, 0 ≤ 0 + x ∧ 0 + x < 64) (hn : l.length ≤ 4611686018427387904) (h3 : ∀ x ∈ L3, 0 ≤ w * (h + 1) + x ∧ w * (h + 1) + x < 64) (hn3 : L3.length ≤ 4611686018427387904) : ∀ (d i k m : Nat), i + d = l.length → d + L3.length + 1 < k → m < 18446744073709551616 →
    impl_Figure_set.l0 k (m : Int) l (l.length : Int) (i : Int) w h L2 L3 = some ((acc (w * (h + 1)) L3 (acc 0 (l.drop i) m) : Nat) : Int) := by
  intro d
  induction d with
  | zero =>
    intro i k m hi hk hm
    obtain ⟨k, rfl⟩ : ∃ q, k = q + 1 := ⟨k - 1, by omega⟩
    simp only [impl_Figure_set.l0]
    rw [if_neg (by omega), List.drop_of_length_le (by omega)]
    have := set_l1 w h hw1 hw4 hh1 hh4 L3 h3 hn3 L2 L3 L3.length 0 k m (by omega) (by omega) hm
    simpa [acc] using this
  | succ d ih =>
    intro i k m hi hk hm
    obtain ⟨k, rfl⟩ : ∃ q, k = q + 1 := ⟨k - 1, by omega⟩
    simp only [impl_Figure_set.l0]
    have hx := hl _ (rd_mem (l := l) (j := i) (by omega))
    rw [Int.zero_add] at hx
    rw [if_pos (by omega), if_pos (by omega), if_pos (by omega), if_pos hx.1, shl_one _ hx.1 hx.2, u64_or_nat _ _ hm (pow64 (by omega)), w64 ((i : Int) + 1) (by omega) (by omega)]
    have := ih (i + 1) k (m ||| 2 ^ (rd l (i : Int)).toNat) (by omega) (by omega) (or64 hm (pow64 (by omega)))
    rw [show ((i : Int) + 1) = ((i + 1 : Nat) : Int) by omega, this]
    rw [List.drop_eq_getElem_cons (show i < l.length by omega)]
    have e : rd l (i : Int) = l[i] := by simp [rd, show i < l.length by omega]
    rw [e]
    simp only [acc, List.foldl_cons, Int.zero_add]
theorem set_f {w h : Int} {l2 l3 : List Int} (F : FigOK w h l2 l3) (h2 : l2.length ≤ 4611686018427387904) (h3 : l3.length ≤ 4611686018427387904) (k : Nat) (hk : l2.length + l3.length + 2 ≤ k) : impl_Figure_set.f k w h l2 l3 = some ((maskN w h l2 l3 : Nat) : Int) := by
  have := set_l0 w h F.w1 F.w4 F.h1 F.h4 l2 l2 l3 F.range2 h2 F.range3 h3 l2.length 0 k 0 (by omega) (by omega) (by decide)
  simpa [impl_Figure_set.f, maskN] using this

/-- as a rewrite that the kernel need not check by unfolding -/
theorem bnd {α β : Type} (x : α) (f : α → Option β) : (some x).bind f = f x := by
  cases (⟨()⟩ : Nonempty Unit)
  rfl

/-! A set's bits counted. -/
theorem count_m (m : Nat) (hm : m < 18446744073709551616) (n : Nat) (h : pcn 64 m = n) : impl_set_count.f (m : Int) = some (n : Int) := by
  have e := ones_f m hm
  rw [h] at e
  simp only [impl_set_count.f, e, Option.bind_some]

theorem few_same (w h : Int) (l2 l3 : List Int) (h2 : l2.length ≤ 4611686018427387904) (h3 : l3.length ≤ 4611686018427387904) (k : Nat) (hk : l2.length + l3.length + 5 ≤ k) : ∃ b, impl_isFew.f k w h l2 l3 = some b ∧ spec_sqFew.f k w h l2 l3 = some b ∧ (b = true ↔ FigOK w h l2 l3 ∧ w * h ≤ 9) := by
  obtain ⟨b, q, r, i⟩ := fig_same w h l2 l3 h2 h3 k hk
  unfold impl_isFew.f spec_sqFew.f
  rw [q, r]
  simp only [Option.bind_some]
  cases b with
  | false => exact ⟨false, rfl, rfl, by simpa using fun F => absurd (i.2 F) (by simp)⟩
  | true =>
    have F := i.1 rfl
    have := F.nums
    rw [w64 (w * h) (by omega) (by omega)]
    exact ⟨_, rfl, rfl, by simp [F]⟩
theorem right_same (w h : Int) (l2 l3 : List Int) (d4 : Int) (d5 : Bool) (h2 : l2.length ≤ 4611686018427387904) (h3 : l3.length ≤ 4611686018427387904) (k : Nat) (hk : l2.length + l3.length + 5 ≤ k) : ∃ b, impl_way_isRight.f k w h l2 l3 d4 d5 = some b ∧ spec_moAsked.f k w h l2 l3 d4 d5 = some b ∧ (b = true ↔ (FigOK w h l2 l3 ∧ w * h ≤ 9) ∧ 0 ≤ d4 ∧ d4 ≤ if d5 = true then 2 else 4) := by
  obtain ⟨b, q, r, i⟩ := few_same w h l2 l3 h2 h3 k hk
  unfold impl_way_isRight.f spec_moAsked.f
  rw [q, r]
  simp only [Option.bind_some, impl_within_f, spec_l1In_f]
  refine ⟨b && (decide (0 ≤ d4) && decide (d4 ≤ if d5 = true then 2 else 4)), ?_, ?_, ?_⟩
  · cases b <;> cases d5 <;> rfl
  · cases b <;> cases d5 <;> rfl
  · simp [i]

theorem count_f {w h : Int} {l2 l3 : List Int} (F : FigOK w h l2 l3) : impl_set_count.f ((maskN w h l2 l3 : Nat) : Int) = some ((l2.length + l3.length : Nat) : Int) :=
  count_m _ F.mask_lt _ F.mask_count

/-! A mask's bits and a figure's lists. -/
theorem mask_low {w h : Nat} {l2 l3 : List Int} (F : FigOK (w : Int) (h : Int) l2 l3) (j : Nat) (hj : j < w * (h + 1)) : (maskN w h l2 l3).testBit j = true ↔ (j : Int) ∈ l2 := by
  unfold maskN
  rw [acc_testBit _ _ _ _ (fun y hy => (F.range3 y hy).1), acc_testBit _ _ _ _ (fun y hy => (F.range2 y hy).1)]
  have e : (w : Int) * ((h : Int) + 1) = ((w * (h + 1) : Nat) : Int) := by push_cast; rfl
  rw [e]
  constructor
  · rintro ((q | q) | q)
    · simp at q
    · simpa using q
    · have := (F.in3 _ q).1
      omega
  · intro q
    exact .inl (.inr (by simpa using q))
theorem mask_high {w h : Nat} {l2 l3 : List Int} (F : FigOK (w : Int) (h : Int) l2 l3) (j : Nat) : (maskN w h l2 l3).testBit (w * (h + 1) + j) = true ↔ (j : Int) ∈ l3 := by
  unfold maskN
  rw [acc_testBit _ _ _ _ (fun y hy => (F.range3 y hy).1), acc_testBit _ _ _ _ (fun y hy => (F.range2 y hy).1)]
  have e : (w : Int) * ((h : Int) + 1) = ((w * (h + 1) : Nat) : Int) := by push_cast; rfl
  rw [e]
  have e2 : (((w * (h + 1) + j : Nat) : Int) - ((w * (h + 1) : Nat) : Int)) = (j : Int) := by omega
  rw [e2]
  constructor
  · rintro ((q | q) | q)
    · simp at q
    · have := (F.in2 _ q).2
      rw [e] at this
      omega
    · exact q
  · intro q
    exact .inr q

/-! A figure's bits, and a list that holds a number. -/
theorem has_l (v : Int) (l : List Int) (hn : l.length ≤ 1000000) : ∀ (d i k : Nat), i + d = l.length → d < k → spec_l1Has.l0 k v l (l.length : Int) (i : Int) = some (decide (v ∈ l.drop i)) := by
  intro d
  induction d with
  | zero =>
    intro i k hi hk
    obtain ⟨k, rfl⟩ : ∃ p, k = p + 1 := ⟨k - 1, by omega⟩
    simp only [spec_l1Has.l0]
    rw [if_neg (by omega), List.drop_of_length_le (by omega)]
    simp
  | succ d ih =>
    intro i k hi hk
    obtain ⟨k, rfl⟩ : ∃ p, k = p + 1 := ⟨k - 1, by omega⟩
    simp only [spec_l1Has.l0]
    have hlt : i < l.length := by omega
    have e : rd l (i : Int) = l[i] := by simp [rd, hlt]
    rw [if_pos (by omega), if_pos (by omega), if_pos (by omega), e, List.drop_eq_getElem_cons hlt]
    clear e
    generalize l[i] = u
    by_cases q : u = v
    · rw [if_pos q, q]; simp
    · rw [if_neg q, w64 ((i : Int) + 1) (by omega) (by omega), show ((i : Int) + 1) = ((i + 1 : Nat) : Int) by omega, ih (i + 1) k (by omega) (by omega)]
      congr 1
      rw [Bool.eq_iff_iff]
      simp [Ne.symm q]
theorem has_f (v : Int) (l : List Int) (hn : l.length ≤ 1000000) (k : Nat) (hk : l.length + 1 ≤ k) : spec_l1Has.f k l v = some (decide (v ∈ l)) := by
  have := has_l v l hn l.length 0 k (by omega) (by omega)
  simpa [spec_l1Has.f] using this

/-! A bit, and sets without a set. -/
/-- the bits of a that b has not -/
def sans (a b : Nat) : Nat := a &&& (18446744073709551615 - b)
theorem sans_bit (a b j : Nat) (ha : a < 18446744073709551616) (hb : b < 18446744073709551616) : (sans a b).testBit j = (a.testBit j && !b.testBit j) := by
  unfold sans
  have e : 18446744073709551615 - b = 2 ^ 64 - (b + 1) := by omega
  rw [Nat.testBit_and, e, Nat.testBit_two_pow_sub_succ (by omega)]
  by_cases h : j < 64
  · simp [h]
  · have : a.testBit j = false := Nat.testBit_lt_two_pow (Nat.lt_of_lt_of_le ha (Nat.le_trans (by decide) (Nat.pow_le_pow_right (by decide : 0 < 2) (show 64 ≤ j by omega))))
    simp [this]
theorem sans_le (a b : Nat) : sans a b ≤ a := Nat.and_le_left
theorem sans_u64 (a b : Nat) (ha : a < 18446744073709551616) (hb : b < 18446744073709551616) : Go.bits .andNot .u64 (a : Int) (b : Int) = ((sans a b : Nat) : Int) := u64_andNot_nat a b ha hb
theorem sans_i64 (a b : Nat) (ha : a < 4611686018427387904) (hb : b < 4611686018427387904) : Go.bits .andNot .i64 (a : Int) (b : Int) = ((sans a b : Nat) : Int) := by
  have hx : a &&& (18446744073709551615 - b) ≤ a := Nat.and_le_left
  show IntKind.i64.wrap ((BitVec.ofInt 64 (a : Int) &&& ~~~BitVec.ofInt 64 (b : Int)).toNat : Int) = _
  have ofs : ∀ n : Nat, n < 18446744073709551616 → (BitVec.ofInt 64 (n : Int)).toNat = n := fun n hn => by
    rw [BitVec.toNat_ofInt]; omega
  rw [BitVec.toNat_and, BitVec.toNat_not, ofs a (by omega), ofs b (by omega), IntKind.wrap_i64]
  have e : 2 ^ 64 - 1 - b = 18446744073709551615 - b := by omega
  rw [e]
  unfold sans
  omega

/-! The numbers of the bits that are set, in order. -/
/-- the bits of m below n -/
def bitsOf (n m : Nat) : List Int := ((List.range n).filter m.testBit).map fun j : Nat => (j : Int)
theorem mem_bitsOf {n m : Nat} {x : Int} : x ∈ bitsOf n m ↔ ∃ j : Nat, x = (j : Int) ∧ j < n ∧ m.testBit j = true := by
  unfold bitsOf
  simp only [List.mem_map, List.mem_filter, List.mem_range]
  constructor
  · rintro ⟨j, ⟨h1, h2⟩, rfl⟩; exact ⟨j, rfl, h1, h2⟩
  · rintro ⟨j, rfl, h1, h2⟩; exact ⟨j, ⟨h1, h2⟩, rfl⟩
theorem bitsOf_pairwise (n m : Nat) : (bitsOf n m).Pairwise (· < ·) := by
  unfold bitsOf
  rw [List.pairwise_map]
  exact (List.Pairwise.sublist List.filter_sublist List.pairwise_lt_range).imp (fun h => by exact_mod_cast h)
/-- two rising lists with the same elements are one -/
theorem rising_ext : ∀ {a b : List Int}, a.Pairwise (· < ·) → b.Pairwise (· < ·) → (∀ x, x ∈ a ↔ x ∈ b) → a = b
  | [], [], _, _, _ => rfl
  | [], y :: b, _, _, h => by have := (h y).2 (by simp); simp at this
  | x :: a, [], _, _, h => by have := (h x).1 (by simp); simp at this
  | x :: a, y :: b, ha, hb, h => by
    rw [List.pairwise_cons] at ha hb
    have hxy : x = y := by
      have h1 := (h x).1 (by simp)
      have h2 := (h y).2 (by simp)
      simp only [List.mem_cons] at h1 h2
      rcases h1 with h1 | h1
      · exact h1
      · rcases h2 with h2 | h2
        · exact h2.symm
        · have := hb.1 _ h1; have := ha.1 _ h2; omega
    subst hxy
    congr 1
    refine rising_ext ha.2 hb.2 (fun z => ?_)
    have := h z
    simp only [List.mem_cons] at this
    constructor
    · intro hz
      rcases this.1 (.inr hz) with rfl | h1
      · exact absurd (ha.1 _ hz) (by omega)
      · exact h1
    · intro hz
      rcases this.2 (.inr hz) with rfl | h1
      · exact absurd (hb.1 _ hz) (by omega)
      · exact h1

/-! The listed bits of a set. -/
theorem low_bit {x : Nat} (h0 : x ≠ 0) (h : x < 18446744073709551616) : x.testBit (Lib.ctz 64 x) = true ∧ Lib.ctz 64 x < 64 ∧ (∀ j, j < Lib.ctz 64 x → x.testBit j = false) ∧ ∀ j, (x &&& (x - 1)).testBit j = (x.testBit j && decide (j ≠ Lib.ctz 64 x)) := by
  obtain ⟨m, hm, hk⟩ := Lib.ctzFrom_spec 64 x (by omega) (by simpa using h)
  have e : Lib.ctz 64 x = Lib.ctzFrom 64 x := by simp [Lib.ctz, h0]
  rw [e]
  generalize Lib.ctzFrom 64 x = c at *
  have tb : ∀ j, x.testBit j = if j < c then false else (2 * m + 1).testBit (j - c) := by
    intro j
    rw [hm, Nat.testBit_two_pow_mul]
    by_cases q : j < c
    · simp [q]; intro h; omega
    · simp [q, Nat.not_lt.1 q]
  have tp : ∀ j, (x - 1).testBit j = if j < c then true else (2 * m).testBit (j - c) := by
    intro j
    have hp : 0 < 2 ^ c := Nat.two_pow_pos c
    have e1 : x - 1 = 2 ^ c * (2 * m) + (2 ^ c - 1) := by
      rw [hm, Nat.mul_add, Nat.mul_one]; omega
    rw [e1, Nat.testBit_two_pow_mul_add _ (by omega)]
    by_cases q : j < c
    · simp [q, Nat.testBit_two_pow_sub_one]
    · simp [q]
  have odd0 : ∀ i, (2 * m).testBit i = ((2 * m + 1).testBit i && decide (i ≠ 0)) := by
    intro i
    cases i with
    | zero => simp [Nat.testBit_zero]
    | succ i => rw [Nat.testBit_succ, Nat.testBit_succ]; simp; congr 1; omega
  refine ⟨?_, hk, fun j hj => by rw [tb, if_pos hj], fun j => ?_⟩
  · rw [tb, if_neg (by omega), Nat.sub_self, Nat.testBit_zero]; simp
  · rw [Nat.testBit_and, tb, tp]
    by_cases q : j < c
    · simp [q]
    · simp only [if_neg q]
      rw [odd0]
      by_cases e2 : j = c
      · subst e2; simp
      · have : j - c ≠ 0 := by omega
        simp [this, e2]
theorem bitsOf_step {x : Nat} (h0 : x ≠ 0) (h : x < 18446744073709551616) : bitsOf 64 x = ((Lib.ctz 64 x : Nat) : Int) :: bitsOf 64 (x &&& (x - 1)) := by
  obtain ⟨h1, h2, h3, h4⟩ := low_bit h0 h
  refine rising_ext (bitsOf_pairwise _ _) ?_ (fun y => ?_)
  · rw [List.pairwise_cons]
    refine ⟨fun y hy => ?_, bitsOf_pairwise _ _⟩
    obtain ⟨j, rfl, hj, hb⟩ := mem_bitsOf.1 hy
    rw [h4] at hb
    simp only [Bool.and_eq_true, decide_eq_true_eq] at hb
    rcases Nat.lt_trichotomy j (Lib.ctz 64 x) with q | q | q
    · rw [h3 j q] at hb; simp at hb
    · exact absurd q hb.2
    · exact_mod_cast q
  · rw [List.mem_cons, mem_bitsOf, mem_bitsOf]
    constructor
    · rintro ⟨j, rfl, hj, hb⟩
      by_cases q : j = Lib.ctz 64 x
      · exact .inl (by rw [q])
      · exact .inr ⟨j, rfl, hj, by rw [h4, hb]; simp [q]⟩
    · rintro (rfl | ⟨j, rfl, hj, hb⟩)
      · exact ⟨_, rfl, h2, h1⟩
      · rw [h4] at hb
        simp only [Bool.and_eq_true] at hb
        exact ⟨j, rfl, hj, hb.1⟩
theorem bitsOf_zero (n : Nat) : bitsOf n 0 = [] := by
  unfold bitsOf
  simp
theorem bitsOf_length (n m : Nat) : (bitsOf n m).length ≤ n := by
  unfold bitsOf
  rw [List.length_map]
  exact Nat.le_trans (List.length_filter_le _ _) (by simp)
theorem tz_val (x : Nat) (hx : x < 18446744073709551616) : bits_TrailingZeros64.f (x : Int) = some ((Lib.ctz 64 x : Nat) : Int) := by
  unfold bits_TrailingZeros64.f
  rw [if_pos ⟨Int.natCast_nonneg _, Int.ofNat_lt.mpr hx⟩, Int.toNat_natCast]
theorem listed_l : ∀ (d x : Nat), (bitsOf 64 x).length = d → x < 18446744073709551616 → ∀ (k : Nat) (o : List Int), d < k → o.length + d ≤ 1000 → impl_set_listed.l0 k (x : Int) o = some (o ++ bitsOf 64 x) := by
  intro d
  induction d with
  | zero =>
    intro x hd hx k o hk ho
    obtain ⟨k, rfl⟩ : ∃ q, k = q + 1 := ⟨k - 1, by omega⟩
    have hb := List.eq_nil_of_length_eq_zero hd
    have h0 : x = 0 := Classical.byContradiction fun h => by rw [bitsOf_step h hx] at hb; simp at hb
    subst h0
    simp only [impl_set_listed.l0]
    rw [if_neg (by omega), bitsOf_zero, List.append_nil]
  | succ d ih =>
    intro x hd hx k o hk ho
    obtain ⟨k, rfl⟩ : ∃ q, k = q + 1 := ⟨k - 1, by omega⟩
    have h0 : x ≠ 0 := fun h => by subst h; rw [bitsOf_zero] at hd; simp at hd
    simp only [impl_set_listed.l0]
    rw [if_pos (by omega), tz_val x hx, Option.bind_some, if_pos (by omega)]
    have e1 : IntKind.u64.wrap ((x : Int) - 1) = ((x - 1 : Nat) : Int) := by rw [IntKind.wrap_u64]; omega
    rw [e1, u64_and_nat x (x - 1) hx (by omega)]
    have hs := bitsOf_step h0 hx
    rw [hs] at hd
    have := ih (x &&& (x - 1)) (by simpa using hd) (Nat.lt_of_le_of_lt Nat.and_le_left hx) k (o ++ [((Lib.ctz 64 x : Nat) : Int)]) (by omega) (by simp; omega)
    rw [this, hs]
    simp
theorem listed_f (x : Nat) (hx : x < 18446744073709551616) (k : Nat) (hk : 65 ≤ k) : impl_set_listed.f k (x : Int) = some (bitsOf 64 x) := by
  have := bitsOf_length 64 x
  have := listed_l _ x rfl hx k [] (by omega) (by simp; omega)
  simpa [impl_set_listed.f] using this

/-! The places of a set's bits. -/
theorem pow62 {x : Nat} (h : x < 62) : 2 ^ x < 4611686018427387904 := Nat.lt_of_lt_of_le (Nat.pow_lt_pow_right (by decide) h) (by decide)
theorem i64_wr : ∀ n : Int, 0 ≤ n → n < 2 ^ 63 → IntKind.i64.wrap n = n := fun n h0 h1 => by rw [IntKind.wrap_i64]; omega
theorem i64_and_nat {a b : Nat} (ha : a < 4611686018427387904) (hb : b < 4611686018427387904) : Go.bits .and .i64 (a : Int) (b : Int) = ((a &&& b : Nat) : Int) :=
  (bits_nat .i64 63 (by decide) i64_wr a b (by omega) (by omega)).1
theorem i64_or_nat {a b : Nat} (ha : a < 4611686018427387904) (hb : b < 4611686018427387904) : Go.bits .or .i64 (a : Int) (b : Int) = ((a ||| b : Nat) : Int) :=
  (bits_nat .i64 63 (by decide) i64_wr a b (by omega) (by omega)).2
theorem shl_i64 (x : Nat) (h : x < 62) : shl .i64 1 (x : Int) = ((2 ^ x : Nat) : Int) := by
  unfold shl
  have e : min (x : Int).toNat (IntKind.i64.bits) = x := by rw [Int.toNat_natCast]; exact Nat.min_eq_left (by show x ≤ 64; omega)
  have := pow62 h
  have e2 : ((2 : Int) ^ x) = ((2 ^ x : Nat) : Int) := by push_cast; rfl
  rw [e, Int.one_mul, e2]
  exact i64_wr _ (Int.natCast_nonneg _) (Int.lt_trans (Int.ofNat_lt.mpr this) (by decide))
theorem and_bit (m j : Nat) (hm : m < 4611686018427387904) (hj : j < 62) : (Go.bits .and .i64 (m : Int) ((2 ^ j : Nat) : Int) = 0) ↔ m.testBit j = false := by
  rw [i64_and_nat hm (pow62 hj), Int.natCast_eq_zero]
  constructor
  · intro e
    have h := congrArg (fun z => Nat.testBit z j) e
    simpa [Nat.testBit_and, Nat.testBit_two_pow] using h
  · intro hb
    apply Nat.eq_of_testBit_eq
    intro i
    rw [Nat.testBit_and, Nat.testBit_two_pow, Nat.zero_testBit]
    by_cases q : j = i
    · subst q; simp [hb]
    · simp [q]
/-- the places from i on whose bits are set -/
def segFrom (off m i d : Nat) : List Int := ((List.range' i d).filter fun j => m.testBit (off + j)).map fun j : Nat => (j : Int)
theorem segFrom_zero (off m i : Nat) : segFrom off m i 0 = [] := rfl
theorem segFrom_succ (off m i d : Nat) : segFrom off m i (d + 1) = if m.testBit (off + i) = true then (i : Int) :: segFrom off m (i + 1) d else segFrom off m (i + 1) d := by
  unfold segFrom
  rw [List.range'_succ, List.filter_cons]
  split <;> rfl
theorem segFrom_length (off m i d : Nat) : (segFrom off m i d).length ≤ d := by
  unfold segFrom
  rw [List.length_map]
  exact Nat.le_trans (List.length_filter_le _ _) (by simp)
theorem mem_seg {off m i d : Nat} {x : Int} : x ∈ segFrom off m i d ↔ ∃ j : Nat, x = (j : Int) ∧ i ≤ j ∧ j < i + d ∧ m.testBit (off + j) = true := by
  unfold segFrom
  simp only [List.mem_map, List.mem_filter, List.mem_range'_1]
  constructor
  · rintro ⟨j, ⟨⟨h1, h2⟩, h3⟩, rfl⟩; exact ⟨j, rfl, h1, h2, h3⟩
  · rintro ⟨j, rfl, h1, h2, h3⟩; exact ⟨j, ⟨⟨h1, h2⟩, h3⟩, rfl⟩
theorem seg_pairwise (off m i d : Nat) : (segFrom off m i d).Pairwise (· < ·) := by
  unfold segFrom
  rw [List.pairwise_map]
  refine (List.Pairwise.filter _ (List.pairwise_lt_range' (s := i) (n := d))).imp ?_
  intro a b h
  exact Int.ofNat_lt.mpr h

/-! The program's figure of a set. -/
/-- the program's lists of a set are the reference's -/
theorem low_list (m n : Nat) (hn : n ≤ 20) (hm : m < 4611686018427387904) : bitsOf 64 (m &&& (2 ^ n - 1)) = segFrom 0 m 0 n := by
  refine rising_ext (bitsOf_pairwise _ _) (seg_pairwise _ _ _ _) (fun x => ?_)
  rw [mem_bitsOf, mem_seg]
  constructor
  · rintro ⟨j, rfl, h1, h2⟩
    rw [Nat.testBit_and, Nat.testBit_two_pow_sub_one] at h2
    simp only [Bool.and_eq_true, decide_eq_true_eq] at h2
    exact ⟨j, rfl, Nat.zero_le _, by omega, by rw [Nat.zero_add]; exact h2.1⟩
  · rintro ⟨j, rfl, _, h1, h2⟩
    refine ⟨j, rfl, by omega, ?_⟩
    rw [Nat.zero_add] at h2
    rw [Nat.testBit_and, Nat.testBit_two_pow_sub_one, h2]
    simpa using h1
theorem high_list (m n d : Nat) (hn : n ≤ 20) (hd : d ≤ 20) (hm : m < 2 ^ (n + d)) : bitsOf 64 (m / 2 ^ n) = segFrom n m 0 d := by
  refine rising_ext (bitsOf_pairwise _ _) (seg_pairwise _ _ _ _) (fun x => ?_)
  rw [mem_bitsOf, mem_seg]
  constructor
  · rintro ⟨j, rfl, h1, h2⟩
    rw [Nat.testBit_div_two_pow] at h2
    refine ⟨j, rfl, Nat.zero_le _, ?_, by rw [Nat.add_comm]; exact h2⟩
    refine Classical.byContradiction fun q => ?_
    rw [Nat.testBit_lt_two_pow (Nat.lt_of_lt_of_le hm (Nat.pow_le_pow_right (by decide) (by omega)))] at h2
    cases h2
  · rintro ⟨j, rfl, _, h1, h2⟩
    exact ⟨j, rfl, by omega, by rw [Nat.testBit_div_two_pow, Nat.add_comm]; exact h2⟩
theorem shr_nat (m n : Nat) (hn : n ≤ 20) : shr .u64 (m : Int) (n : Int) = ((m / 2 ^ n : Nat) : Int) := by
  unfold shr
  have e : min (n : Int).toNat (IntKind.u64.bits) = n := by rw [Int.toNat_natCast]; exact Nat.min_eq_left (by show n ≤ 64; omega)
  rw [e]
  push_cast
  rfl
theorem fig_f (w h : Int) (n2 n3 : Nat) (h2 : wrap64 (w * wrap64 (h + 1)) = (n2 : Int)) (hn2 : n2 ≤ 20) (hn3 : n3 ≤ 20) (m : Nat) (hm : m < 4611686018427387904) (hm2 : m < 2 ^ (n2 + n3)) (k : Nat) (hk : 65 ≤ k) :
    impl_grid_figure.f k w h (m : Int) = some (w, h, segFrom 0 m 0 n2, segFrom n2 m 0 n3) := by
  have hp : 2 ^ n2 < 4611686018427387904 := pow62 (by omega)
  have hp0 : 0 < 2 ^ n2 := Nat.two_pow_pos n2
  have e1 : IntKind.u64.wrap ((shl .u64 1 (n2 : Int)) - 1) = ((2 ^ n2 - 1 : Nat) : Int) := by
    rw [shl_one _ (by omega) (by omega), Int.toNat_natCast, IntKind.wrap_u64, ← Int.natCast_one, ← Int.natCast_sub hp0]
    exact Int.emod_eq_of_lt (Int.natCast_nonneg _) (show ((2 ^ n2 - 1 : Nat) : Int) < ((18446744073709551616 : Nat) : Int) from Int.ofNat_lt.mpr (by omega))
  unfold impl_grid_figure.f impl_grid_levels.f
  rw [h2, Option.bind_some, if_pos (Int.natCast_nonneg _), e1, u64_and_nat m (2 ^ n2 - 1) (by omega) (by omega), listed_f _ (Nat.lt_of_le_of_lt Nat.and_le_left (by omega)) k hk, Option.bind_some, Option.bind_some, if_pos (Int.natCast_nonneg _), shr_nat m n2 hn2, listed_f _ (Nat.lt_of_le_of_lt (Nat.div_le_self _ _) (by omega)) k hk, Option.bind_some, low_list m n2 hn2 hm, high_list m n2 n3 hn2 hn3 hm2]

/-! A figure's bits laid out again. -/
theorem FigOK.small {w h : Int} {l2 l3 : List Int} (F : FigOK w h l2 l3) : (∀ x ∈ l2, 0 ≤ x ∧ x ≤ 20) ∧ (∀ x ∈ l3, 0 ≤ x ∧ x ≤ 20) ∧ l2.length ≤ 20 ∧ l3.length ≤ 20 := by
  obtain ⟨a, b, c, d, _, _⟩ := F.nums
  refine ⟨fun x hx => ?_, fun x hx => ?_, ?_, ?_⟩
  · have := F.in2 x hx; omega
  · have := F.in3 x hx; omega
  · have := rise_length F.r2 F.in2 (by omega); omega
  · have := rise_length F.r3 F.in3 (by omega); omega
/-- a figure's grid in numbers -/
theorem FigOK.grid {w h : Int} {l2 l3 : List Int} (F : FigOK w h l2 l3) : ∃ wn hn : Nat, w = (wn : Int) ∧ h = (hn : Int) ∧ 1 ≤ wn ∧ wn ≤ 4 ∧ 1 ≤ hn ∧ hn ≤ 4 :=
  ⟨w.toNat, h.toNat, by have := F.w1; omega, by have := F.h1; omega, by have := F.w1; omega, by have := F.w4; omega, by have := F.h1; omega, by have := F.h4; omega⟩
theorem acc_below {base : Int} {B : Nat} : ∀ (l : List Int) (m : Nat), (∀ x ∈ l, 0 ≤ base + x ∧ base + x < B) → m < 2 ^ B → acc base l m < 2 ^ B
  | [], m, _, hm => hm
  | x :: l, m, hl, hm => by
    have hx := hl x List.mem_cons_self
    exact acc_below l _ (fun y hy => hl y (List.mem_cons_of_mem _ hy)) (Nat.or_lt_two_pow hm (Nat.pow_lt_pow_right (by decide) (by omega)))
section
variable {w h : Nat} (w1 : 1 ≤ w) (w4 : w ≤ 4) (h1 : 1 ≤ h) (h4 : h ≤ 4)
include w1 w4 h1 h4
theorem nums_nat : w * (h + 1) ≤ 20 ∧ h * (w + 1) ≤ 20 ∧ 2 ≤ w * (h + 1) ∧ 2 ≤ h * (w + 1) ∧ wrap64 ((w : Int) * wrap64 ((h : Int) + 1)) = ((w * (h + 1) : Nat) : Int) ∧ wrap64 (wrap64 ((w : Int) + 1) * (h : Int)) = ((h * (w + 1) : Nat) : Int) := by
  obtain ⟨e1, e2, e3, _⟩ := grid_mul (w := (w : Int)) (h := (h : Int)) (by omega) (by omega) (by omega) (by omega)
  obtain ⟨m1, m2, m3, m4, _⟩ := mul_bounds (w := (w : Int)) (h := (h : Int)) (by omega) (by omega) (by omega) (by omega)
  have c1 : (w : Int) * ((h : Int) + 1) = ((w * (h + 1) : Nat) : Int) := by push_cast; rfl
  have c2 : (h : Int) * ((w : Int) + 1) = ((h * (w + 1) : Nat) : Int) := by push_cast; rfl
  rw [e1, e3, c1, c2]
  rw [c1] at m1 m2
  rw [c2] at m3 m4
  exact ⟨by omega, by omega, by omega, by omega, rfl, rfl⟩
theorem mask_small {l2 l3 : List Int} (F : FigOK (w : Int) (h : Int) l2 l3) : maskN w h l2 l3 < 2 ^ (w * (h + 1) + h * (w + 1)) := by
  obtain ⟨b1, b2, b3, b4, _⟩ := nums_nat w1 w4 h1 h4
  have c1 : (w : Int) * ((h : Int) + 1) = ((w * (h + 1) : Nat) : Int) := by push_cast; rfl
  have c2 : (h : Int) * ((w : Int) + 1) = ((h * (w + 1) : Nat) : Int) := by push_cast; rfl
  unfold maskN
  rw [c1]
  refine acc_below _ _ (fun x hx => ?_) (acc_below _ _ (fun x hx => ?_) (Nat.two_pow_pos _))
  · have := F.in3 x hx; rw [c2] at this; omega
  · have := F.in2 x hx; rw [c1] at this; omega
theorem mask_62 {l2 l3 : List Int} (F : FigOK (w : Int) (h : Int) l2 l3) : maskN w h l2 l3 < 4611686018427387904 := by
  obtain ⟨b1, b2, b3, b4, _⟩ := nums_nat w1 w4 h1 h4
  exact Nat.lt_trans (mask_small w1 w4 h1 h4 F) (pow62 (by omega))
/-- the figure of a set is a figure, and its bits are the set's -/
theorem seg_fig (m : Nat) : FigOK (w : Int) (h : Int) (segFrom 0 m 0 (w * (h + 1))) (segFrom (w * (h + 1)) m 0 (h * (w + 1))) := by
  have c1 : (w : Int) * ((h : Int) + 1) = ((w * (h + 1) : Nat) : Int) := by push_cast; rfl
  have c2 : (h : Int) * ((w : Int) + 1) = ((h * (w + 1) : Nat) : Int) := by push_cast; rfl
  refine ⟨by omega, by omega, by omega, by omega, pairwise_rise (seg_pairwise _ _ _ _), pairwise_rise (seg_pairwise _ _ _ _), fun x hx => ?_, fun x hx => ?_⟩
  · obtain ⟨j, rfl, _, q, _⟩ := mem_seg.1 hx; rw [c1]; omega
  · obtain ⟨j, rfl, _, q, _⟩ := mem_seg.1 hx; rw [c2]; omega
theorem seg_mask (m : Nat) (hm : m < 2 ^ (w * (h + 1) + h * (w + 1))) : maskN w h (segFrom 0 m 0 (w * (h + 1))) (segFrom (w * (h + 1)) m 0 (h * (w + 1))) = m := by
  have F := seg_fig w1 w4 h1 h4 m
  apply Nat.eq_of_testBit_eq
  intro j
  rw [Bool.eq_iff_iff]
  by_cases q : j < w * (h + 1)
  · rw [mask_low F j q, mem_seg]
    constructor
    · rintro ⟨i, e, _, _, hb⟩
      obtain rfl : j = i := by omega
      rwa [Nat.zero_add] at hb
    · intro hb; exact ⟨j, rfl, Nat.zero_le _, by omega, by rwa [Nat.zero_add]⟩
  · obtain ⟨i, rfl⟩ : ∃ i, j = w * (h + 1) + i := ⟨j - w * (h + 1), by omega⟩
    rw [mask_high F i, mem_seg]
    constructor
    · rintro ⟨i', e, _, _, hb⟩
      obtain rfl : i = i' := by omega
      exact hb
    · intro hb
      refine ⟨i, rfl, Nat.zero_le _, ?_, hb⟩
      refine Classical.byContradiction fun hq => ?_
      rw [Nat.testBit_lt_two_pow (Nat.lt_of_lt_of_le hm (Nat.pow_le_pow_right (by decide) (by omega)))] at hb
      cases hb
end
/-! The reference's bits of a figure. -/
theorem or62 {a b : Nat} (ha : a < 4611686018427387904) (hb : b < 4611686018427387904) : a ||| b < 4611686018427387904 := Nat.or_lt_two_pow (n := 62) ha hb
theorem sqmask_l1 (w h : Int) (hw1 : 1 ≤ w) (hw4 : w ≤ 4) (hh1 : 1 ≤ h) (hh4 : h ≤ 4) (l : List Int) (hl : ∀ x ∈ l, 0 ≤ x ∧ x ≤ 20) (hn : l.length ≤ 1000000) (L2 L3 : List Int) : ∀ (d i k m : Nat), i + d = l.length → d < k → m < 4611686018427387904 →
    spec_sqMask.l1 k (m : Int) l (l.length : Int) (i : Int) w h L2 L3 = some ((acc (w * (h + 1)) (l.drop i) m : Nat) : Int) := by
  obtain ⟨e1, _⟩ := grid_mul hw1 hw4 hh1 hh4
  obtain ⟨m1, m2, _⟩ := mul_bounds hw1 hw4 hh1 hh4
  intro d
  induction d with
  | zero =>
    intro i k m hi hk hm
    obtain ⟨k, rfl⟩ : ∃ q, k = q + 1 := ⟨k - 1, by omega⟩
    simp only [spec_sqMask.l1]
    rw [if_neg (by omega), List.drop_of_length_le (by omega)]
    rfl
  | succ d ih =>
    intro i k m hi hk hm
    obtain ⟨k, rfl⟩ : ∃ q, k = q + 1 := ⟨k - 1, by omega⟩
    have hx := hl _ (rd_mem (l := l) (j := i) (by omega))
    have hlt : i < l.length := by omega
    have e : rd l (i : Int) = l[i] := by simp [rd, hlt]
    simp only [spec_sqMask.l1, spec_sqBit.f]
    rw [if_pos (by omega), if_pos (by omega), if_pos (by omega), if_pos trivial, e1, List.drop_eq_getElem_cons hlt]
    clear e1
    rw [e] at hx ⊢
    clear e
    generalize l[i] = u at *
    obtain ⟨v, rfl⟩ := Int.eq_ofNat_of_zero_le hx.1
    obtain ⟨n, hn2⟩ := Int.eq_ofNat_of_zero_le (show 0 ≤ w * (h + 1) by omega)
    have hn3 : n ≤ 20 := by omega
    rw [hn2, w64 _ (by omega) (by omega), if_pos (by omega), show (n : Int) + (v : Int) = ((n + v : Nat) : Int) by omega, shl_i64 _ (by omega), Option.bind_some, i64_or_nat hm (pow62 (by omega)), w64 ((i : Int) + 1) (by omega) (by omega), show ((i : Int) + 1) = ((i + 1 : Nat) : Int) by omega]
    have := ih (i + 1) k (m ||| 2 ^ (n + v)) (by omega) (by omega) (or62 hm (pow62 (by omega)))
    rw [hn2] at this
    rw [this]
    simp only [acc, List.foldl_cons]
    rw [show ((n : Int) + (v : Int)).toNat = n + v by omega]
theorem sqmask_l0 (w h : Int) (hw1 : 1 ≤ w) (hw4 : w ≤ 4) (hh1 : 1 ≤ h) (hh4 : h ≤ 4) (l L2 L3 : List Int) (hl : ∀ x ∈ l, 0 ≤ x ∧ x ≤ 20) (hn : l.length ≤ 1000000) (h3 : ∀ x ∈ L3, 0 ≤ x ∧ x ≤ 20) (hn3 : L3.length ≤ 1000000) : ∀ (d i k m : Nat), i + d = l.length → d + L3.length + 1 < k → m < 4611686018427387904 →
    spec_sqMask.l0 k (m : Int) l (l.length : Int) (i : Int) w h L2 L3 = some ((acc (w * (h + 1)) L3 (acc 0 (l.drop i) m) : Nat) : Int) := by
  intro d
  induction d with
  | zero =>
    intro i k m hi hk hm
    obtain ⟨k, rfl⟩ : ∃ q, k = q + 1 := ⟨k - 1, by omega⟩
    simp only [spec_sqMask.l0]
    rw [if_neg (by omega), List.drop_of_length_le (by omega)]
    have := sqmask_l1 w h hw1 hw4 hh1 hh4 L3 h3 hn3 L2 L3 L3.length 0 k m (by omega) (by omega) hm
    simpa [acc] using this
  | succ d ih =>
    intro i k m hi hk hm
    obtain ⟨k, rfl⟩ : ∃ q, k = q + 1 := ⟨k - 1, by omega⟩
    have hx := hl _ (rd_mem (l := l) (j := i) (by omega))
    have hlt : i < l.length := by omega
    have e : rd l (i : Int) = l[i] := by simp [rd, hlt]
    simp only [spec_sqMask.l0, spec_sqBit.f]
    rw [if_pos (by omega), if_pos (by omega), if_pos (by omega), if_neg (by simp), List.drop_eq_getElem_cons hlt]
    rw [e] at hx ⊢
    clear e
    generalize l[i] = u at *
    obtain ⟨v, rfl⟩ := Int.eq_ofNat_of_zero_le hx.1
    rw [if_pos (by omega), shl_i64 _ (by omega), Option.bind_some, i64_or_nat hm (pow62 (by omega)), w64 ((i : Int) + 1) (by omega) (by omega), show ((i : Int) + 1) = ((i + 1 : Nat) : Int) by omega]
    rw [ih (i + 1) k (m ||| 2 ^ v) (by omega) (by omega) (or62 hm (pow62 (by omega)))]
    simp only [acc, List.foldl_cons, Int.zero_add, Int.toNat_natCast]
theorem sqMask_f {w h : Int} {l2 l3 : List Int} (F : FigOK w h l2 l3) (k : Nat) (hk : 50 ≤ k) : spec_sqMask.f k w h l2 l3 = some ((maskN w h l2 l3 : Nat) : Int) := by
  obtain ⟨a, b, c, d⟩ := F.small
  have := sqmask_l0 w h F.w1 F.w4 F.h1 F.h4 l2 l2 l3 a (by omega) b (by omega) l2.length 0 k 0 (by omega) (by omega) (by decide)
  simpa [spec_sqMask.f, maskN] using this

/-! The reference's figure of a set. -/
section
variable (w h : Int) (n2 n3 : Nat) (h2 : wrap64 (w * wrap64 (h + 1)) = (n2 : Int)) (h3 : wrap64 (wrap64 (w + 1) * h) = (n3 : Int)) (hn2 : n2 ≤ 20) (hn3 : n3 ≤ 20) (m : Nat) (hm : m < 4611686018427387904)
include h2 h3 hn2 hn3 hm
theorem sq_l1 (q r : Int) (L2 : List Int) : ∀ (d i k : Nat) (o : List Int), i + d = n3 → d < k → o.length + d ≤ 100 → spec_sqFigure.l1 k w h (m : Int) (i : Int) q r L2 o = some (q, r, L2, o ++ segFrom n2 m i d) := by
  intro d
  induction d with
  | zero =>
    intro i k o hi hk ho
    obtain ⟨k, rfl⟩ : ∃ p, k = p + 1 := ⟨k - 1, by omega⟩
    simp only [spec_sqFigure.l1]
    rw [h3, if_neg (by omega), segFrom_zero, List.append_nil]
  | succ d ih =>
    intro i k o hi hk ho
    obtain ⟨k, rfl⟩ : ∃ p, k = p + 1 := ⟨k - 1, by omega⟩
    simp only [spec_sqFigure.l1, spec_sqBit.f]
    rw [h3, h2, if_pos (by omega), if_pos trivial, w64 ((n2 : Int) + (i : Int)) (by omega) (by omega), if_pos (by omega), show (n2 : Int) + (i : Int) = ((n2 + i : Nat) : Int) by omega, shl_i64 _ (by omega), Option.bind_some, w64 ((i : Int) + 1) (by omega) (by omega), show ((i : Int) + 1) = ((i + 1 : Nat) : Int) by omega, segFrom_succ]
    by_cases hb : m.testBit (n2 + i) = true
    · rw [if_neg (fun e => by rw [(and_bit m (n2 + i) hm (by omega)).1 e] at hb; cases hb), if_pos (by omega), ih (i + 1) k (o ++ [(i : Int)]) (by omega) (by omega) (by simp; omega), if_pos hb, List.append_assoc]
      rfl
    · rw [if_pos ((and_bit m (n2 + i) hm (by omega)).2 (by simpa using hb)), ih (i + 1) k o (by omega) (by omega) (by omega), if_neg hb]
theorem sq_l0 (q r : Int) : ∀ (d i k : Nat) (o : List Int), i + d = n2 → d + n3 + 1 < k → o.length + d ≤ 100 → spec_sqFigure.l0 k w h (m : Int) (i : Int) q r o = some (q, r, o ++ segFrom 0 m i d, segFrom n2 m 0 n3) := by
  intro d
  induction d with
  | zero =>
    intro i k o hi hk ho
    obtain ⟨k, rfl⟩ : ∃ p, k = p + 1 := ⟨k - 1, by omega⟩
    simp only [spec_sqFigure.l0]
    rw [h2, if_neg (by omega), segFrom_zero, List.append_nil]
    have := sq_l1 w h n2 n3 h2 h3 hn2 hn3 m hm q r o n3 0 k [] (by omega) (by omega) (by simp; omega)
    simpa using this
  | succ d ih =>
    intro i k o hi hk ho
    obtain ⟨k, rfl⟩ : ∃ p, k = p + 1 := ⟨k - 1, by omega⟩
    simp only [spec_sqFigure.l0, spec_sqBit.f]
    rw [h2, if_pos (by omega), if_neg (by simp), if_pos (by omega), shl_i64 _ (by omega), Option.bind_some, w64 ((i : Int) + 1) (by omega) (by omega), show ((i : Int) + 1) = ((i + 1 : Nat) : Int) by omega, segFrom_succ, Nat.zero_add]
    by_cases hb : m.testBit i = true
    · rw [if_neg (fun e => by rw [(and_bit m i hm (by omega)).1 e] at hb; cases hb), if_pos (by omega), ih (i + 1) k (o ++ [(i : Int)]) (by omega) (by omega) (by simp; omega), if_pos hb, List.append_assoc]
      rfl
    · rw [if_pos ((and_bit m i hm (by omega)).2 (by simpa using hb)), ih (i + 1) k o (by omega) (by omega) (by omega), if_neg hb]
theorem sq_f (k : Nat) (hk : n2 + n3 + 2 ≤ k) : spec_sqFigure.f k w h (m : Int) = some (w, h, segFrom 0 m 0 n2, segFrom n2 m 0 n3) := by
  have := sq_l0 w h n2 n3 h2 h3 hn2 hn3 m hm w h n2 0 k [] (by omega) (by omega) (by simp; omega)
  simpa [spec_sqFigure.f] using this
end

/-! The squares of a grid: both list the same edges in one order. -/
def sqEdges (w h : Nat) : List Nat := ((spec_sqAll.f 4997 w h).getD []).map fun q => q.f3.toNat
def SqOK (w h : Nat) : Prop :=
  (spec_sqAll.f 4997 w h).map (·.map (·.f3)) = some ((sqEdges w h).map fun n : Nat => (n : Int)) ∧ (impl_grid_squares.f 4999 w h).map (·.map (·.f3)) = some ((sqEdges w h).map fun n : Nat => (n : Int)) ∧ (sqEdges w h).length ≤ 30 ∧ ∀ n ∈ sqEdges w h, n < 1099511627776
instance (w h : Nat) : Decidable (SqOK w h) := by unfold SqOK; infer_instance
theorem sq_all : ∀ w : Fin 4, ∀ h : Fin 4, SqOK (w.val + 1) (h.val + 1) := by decide +kernel
theorem sq_ok {w h : Nat} (w1 : 1 ≤ w) (w4 : w ≤ 4) (h1 : 1 ≤ h) (h4 : h ≤ 4) : SqOK w h := by
  have := sq_all ⟨w - 1, by omega⟩ ⟨h - 1, by omega⟩
  simp only at this
  rw [show w - 1 + 1 = w by omega, show h - 1 + 1 = h by omega] at this
  exact this

/-! Squares counted, and matches that no square needs. -/
theorem rd67 {qs : List S141} {L : List Nat} (e : qs.map (·.f3) = L.map fun n : Nat => (n : Int)) : qs.length = L.length ∧ ∀ (i : Nat) (h : i < L.length), (rd_T141 qs (i : Int)).f3 = ((L[i] : Nat) : Int) := by
  have hl : qs.length = L.length := by simpa using congrArg List.length e
  refine ⟨hl, fun i h => ?_⟩
  have h2 : (qs.map (·.f3))[i]? = (L.map fun n : Nat => (n : Int))[i]? := by rw [e]
  rw [List.getElem?_map, List.getElem?_map, List.getElem?_eq_getElem (by omega), List.getElem?_eq_getElem h] at h2
  have h3 : qs[i].f3 = ((L[i] : Nat) : Int) := by simpa using h2
  rw [← h3]
  congr 1
  simp [rd_T141, hl, h]
theorem rd77 {qs : List S127} {L : List Nat} (e : qs.map (·.f3) = L.map fun n : Nat => (n : Int)) : qs.length = L.length ∧ ∀ (i : Nat) (h : i < L.length), (rd_T127 qs (i : Int)).f3 = ((L[i] : Nat) : Int) := by
  have hl : qs.length = L.length := by simpa using congrArg List.length e
  refine ⟨hl, fun i h => ?_⟩
  have h2 : (qs.map (·.f3))[i]? = (L.map fun n : Nat => (n : Int))[i]? := by rw [e]
  rw [List.getElem?_map, List.getElem?_map, List.getElem?_eq_getElem (by omega), List.getElem?_eq_getElem h] at h2
  have h3 : qs[i].f3 = ((L[i] : Nat) : Int) := by simpa using h2
  rw [← h3]
  congr 1
  simp [rd_T127, hl, h]
/-- a set has all of n -/
def within (M n : Nat) : Bool := M &&& n == n
theorem sans_within {M n : Nat} (hM : M < 18446744073709551616) (hn : n < 18446744073709551616) : sans n M = 0 ↔ within M n = true := by
  rw [within, beq_iff_eq]
  constructor
  · intro h
    apply Nat.eq_of_testBit_eq
    intro j
    have := congrArg (fun z => Nat.testBit z j) h
    simp only [sans_bit n M j hn hM, Nat.zero_testBit] at this
    rw [Nat.testBit_and]
    cases h1 : n.testBit j <;> cases h2 : M.testBit j <;> simp_all
  · intro h
    apply Nat.eq_of_testBit_eq
    intro j
    have := congrArg (fun z => Nat.testBit z j) h
    simp only [Nat.testBit_and] at this
    rw [sans_bit n M j hn hM, Nat.zero_testBit]
    cases h1 : n.testBit j <;> cases h2 : M.testBit j <;> simp_all
section
variable {L : List Nat} (hL : L.length ≤ 30) (hB : ∀ n ∈ L, n < 1099511627776) {M : Nat} (hM : M < 4611686018427387904)
include hL hB hM
theorem sqCount_l {qs : List S141} (e : qs.map (·.f3) = L.map fun n : Nat => (n : Int)) : ∀ (d i k c : Nat), i + d = L.length → d < k → c + d ≤ 1000 →
    spec_sqCount.l0 k (M : Int) (c : Int) qs (qs.length : Int) (i : Int) = some ((c + ((L.drop i).filter (within M)).length : Nat) : Int) := by
  obtain ⟨hl, hr⟩ := rd67 e
  intro d
  induction d with
  | zero =>
    intro i k c hi hk hc
    obtain ⟨k, rfl⟩ : ∃ q, k = q + 1 := ⟨k - 1, by omega⟩
    simp only [spec_sqCount.l0]
    rw [if_neg (by omega), List.drop_of_length_le (by omega)]
    rfl
  | succ d ih =>
    intro i k c hi hk hc
    obtain ⟨k, rfl⟩ : ∃ q, k = q + 1 := ⟨k - 1, by omega⟩
    have hlt : i < L.length := by omega
    have hb := hB _ (List.getElem_mem hlt)
    simp only [spec_sqCount.l0]
    rw [if_pos (by omega), if_pos (by omega), if_pos (by omega), hr i hlt, i64_and_nat hM (by omega), w64 ((i : Int) + 1) (by omega) (by omega), show ((i : Int) + 1) = ((i + 1 : Nat) : Int) by omega, List.drop_eq_getElem_cons hlt]
    by_cases q : within M L[i] = true
    · have q2 : M &&& L[i] = L[i] := by simpa [within] using q
      rw [if_pos (by rw [q2]), w64 ((c : Int) + 1) (by omega) (by omega), show ((c : Int) + 1) = ((c + 1 : Nat) : Int) by omega, ih (i + 1) k (c + 1) (by omega) (by omega) (by omega), List.filter_cons_of_pos q, List.length_cons]
      congr 2; omega
    · have q2 : ¬ ((M &&& L[i] : Nat) : Int) = ((L[i] : Nat) : Int) := fun h => q (by simpa [within] using Int.ofNat.inj h)
      rw [if_neg q2, ih (i + 1) k c (by omega) (by omega) (by omega), List.filter_cons_of_neg q]
theorem sqNeeded_l {qs : List S141} (e : qs.map (·.f3) = L.map fun n : Nat => (n : Int)) : ∀ (d i k o : Nat), i + d = L.length → d < k → o < 4611686018427387904 →
    spec_sqNeeded.l0 k (M : Int) (o : Int) qs (qs.length : Int) (i : Int) = some ((((L.drop i).filter (within M)).foldl (· ||| ·) o : Nat) : Int) := by
  obtain ⟨hl, hr⟩ := rd67 e
  intro d
  induction d with
  | zero =>
    intro i k o hi hk ho
    obtain ⟨k, rfl⟩ : ∃ q, k = q + 1 := ⟨k - 1, by omega⟩
    simp only [spec_sqNeeded.l0]
    rw [if_neg (by omega), List.drop_of_length_le (by omega)]
    rfl
  | succ d ih =>
    intro i k o hi hk ho
    obtain ⟨k, rfl⟩ : ∃ q, k = q + 1 := ⟨k - 1, by omega⟩
    have hlt : i < L.length := by omega
    have hb := hB _ (List.getElem_mem hlt)
    simp only [spec_sqNeeded.l0]
    rw [if_pos (by omega), if_pos (by omega), if_pos (by omega), hr i hlt, i64_and_nat hM (by omega), w64 ((i : Int) + 1) (by omega) (by omega), show ((i : Int) + 1) = ((i + 1 : Nat) : Int) by omega, List.drop_eq_getElem_cons hlt]
    by_cases q : within M L[i] = true
    · have q2 : M &&& L[i] = L[i] := by simpa [within] using q
      rw [if_pos (by rw [q2]), i64_or_nat ho (by omega), ih (i + 1) k _ (by omega) (by omega) (Nat.or_lt_two_pow (n := 62) ho (by omega)), List.filter_cons_of_pos q, List.foldl_cons]
    · have q2 : ¬ ((M &&& L[i] : Nat) : Int) = ((L[i] : Nat) : Int) := fun h => q (by simpa [within] using Int.ofNat.inj h)
      rw [if_neg q2, ih (i + 1) k o (by omega) (by omega) ho, List.filter_cons_of_neg q]
theorem countOf_l {qs : List S127} (e : qs.map (·.f3) = L.map fun n : Nat => (n : Int)) : ∀ (d i k c : Nat), i + d = L.length → d < k → c + d ≤ 1000 →
    impl_countOf.l0 k (M : Int) (c : Int) qs (qs.length : Int) (i : Int) = some ((c + ((L.drop i).filter (within M)).length : Nat) : Int) := by
  obtain ⟨hl, hr⟩ := rd77 e
  intro d
  induction d with
  | zero =>
    intro i k c hi hk hc
    obtain ⟨k, rfl⟩ : ∃ q, k = q + 1 := ⟨k - 1, by omega⟩
    simp only [impl_countOf.l0]
    rw [if_neg (by omega), List.drop_of_length_le (by omega)]
    rfl
  | succ d ih =>
    intro i k c hi hk hc
    obtain ⟨k, rfl⟩ : ∃ q, k = q + 1 := ⟨k - 1, by omega⟩
    have hlt : i < L.length := by omega
    have hb := hB _ (List.getElem_mem hlt)
    have hs := sans_within (M := M) (n := L[i]) (by omega) (by omega)
    simp only [impl_countOf.l0]
    rw [if_pos (by omega), if_pos (by omega), if_pos (by omega), hr i hlt, sans_u64 _ _ (by omega) (by omega), w64 ((i : Int) + 1) (by omega) (by omega), show ((i : Int) + 1) = ((i + 1 : Nat) : Int) by omega, List.drop_eq_getElem_cons hlt]
    by_cases q : within M L[i] = true
    · rw [hs.2 q, show (((0 : Nat) : Int) == 0) = true from rfl, show impl_bit.f true = some 1 from rfl, Option.bind_some, w64 ((c : Int) + 1) (by omega) (by omega), show ((c : Int) + 1) = ((c + 1 : Nat) : Int) by omega, ih (i + 1) k (c + 1) (by omega) (by omega) (by omega), List.filter_cons_of_pos q, List.length_cons]
      congr 2; omega
    · have q2 : (((sans L[i] M : Nat) : Int) == 0) = false := beq_eq_false_iff_ne.2 (fun h => q (hs.1 (by omega)))
      rw [q2, show impl_bit.f false = some 0 from rfl, Option.bind_some, Int.add_zero, w64 (c : Int) (by omega) (by omega), ih (i + 1) k c (by omega) (by omega) (by omega), List.filter_cons_of_neg q]
end

/-! Matches that no square needs; bits of differences. -/
theorem needless_l {L : List Nat} (hL : L.length ≤ 30) (hB : ∀ n ∈ L, n < 1099511627776) {qs : List S127} (e : qs.map (·.f3) = L.map fun n : Nat => (n : Int)) : ∀ (d i k o : Nat), i + d = L.length → d < k → o < 4611686018427387904 →
    impl_needless.l0 k (o : Int) qs (qs.length : Int) (i : Int) = some (((L.drop i).foldl sans o : Nat) : Int) := by
  obtain ⟨hl, hr⟩ := rd77 e
  intro d
  induction d with
  | zero =>
    intro i k o hi hk ho
    obtain ⟨k, rfl⟩ : ∃ q, k = q + 1 := ⟨k - 1, by omega⟩
    simp only [impl_needless.l0]
    rw [if_neg (by omega), List.drop_of_length_le (by omega)]
    rfl
  | succ d ih =>
    intro i k o hi hk ho
    obtain ⟨k, rfl⟩ : ∃ q, k = q + 1 := ⟨k - 1, by omega⟩
    have hlt : i < L.length := by omega
    have hb := hB _ (List.getElem_mem hlt)
    simp only [impl_needless.l0]
    rw [if_pos (by omega), if_pos (by omega), if_pos (by omega), hr i hlt, sans_u64 _ _ (by omega) (by omega), w64 ((i : Int) + 1) (by omega) (by omega), show ((i : Int) + 1) = ((i + 1 : Nat) : Int) by omega, List.drop_eq_getElem_cons hlt, ih (i + 1) k _ (by omega) (by omega) (Nat.lt_of_le_of_lt (sans_le _ _) ho), List.foldl_cons]
theorem of_map {M : Nat} (hM : M < 4611686018427387904) : ∀ {qs : List S127} {L : List Nat}, (∀ n ∈ L, n < 1099511627776) → qs.map (·.f3) = L.map (fun n : Nat => (n : Int)) → (qs.filter (ofP (M : Int))).map (·.f3) = (L.filter (within M)).map (fun n : Nat => (n : Int))
  | [], [], _, _ => rfl
  | [], _ :: _, _, e => by simp at e
  | _ :: _, [], _, e => by simp at e
  | q :: qs, n :: L, hB, e => by
    simp only [List.map_cons, List.cons.injEq] at e
    have ih := of_map hM (fun x hx => hB x (List.mem_cons_of_mem _ hx)) e.2
    have hn := hB n List.mem_cons_self
    have hp : ofP (M : Int) q = within M n := by
      unfold ofP
      rw [e.1, sans_u64 _ _ (by omega) (by omega), Bool.eq_iff_iff, beq_iff_eq, ← sans_within (by omega) (by omega)]
      omega
    by_cases w : within M n = true
    · rw [List.filter_cons_of_pos (by rw [hp]; exact w), List.filter_cons_of_pos w, List.map_cons, List.map_cons, ih, e.1]
    · rw [List.filter_cons_of_neg (by rw [hp]; exact w), List.filter_cons_of_neg w, ih]
theorem orAll_bit : ∀ (L : List Nat) (o j : Nat), (L.foldl (· ||| ·) o).testBit j = true ↔ o.testBit j = true ∨ ∃ n ∈ L, n.testBit j = true
  | [], o, j => by simp
  | n :: L, o, j => by
    rw [List.foldl_cons, orAll_bit L, Nat.testBit_or, Bool.or_eq_true]
    simp only [List.mem_cons, exists_eq_or_imp]
    exact or_assoc
theorem sansAll_bit : ∀ (L : List Nat) (o j : Nat), (∀ n ∈ L, n < 18446744073709551616) → o < 18446744073709551616 → ((L.foldl sans o).testBit j = true ↔ o.testBit j = true ∧ ∀ n ∈ L, ¬ n.testBit j = true)
  | [], o, j, _, _ => by simp
  | n :: L, o, j, hB, ho => by
    rw [List.foldl_cons, sansAll_bit L _ j (fun x hx => hB x (List.mem_cons_of_mem _ hx)) (Nat.lt_of_le_of_lt (sans_le _ _) ho), sans_bit _ _ _ ho (hB n List.mem_cons_self)]
    simp only [Bool.and_eq_true, Bool.not_eq_true', List.mem_cons, forall_eq_or_imp]
    constructor
    · rintro ⟨⟨a, b⟩, c⟩; exact ⟨a, by simp [b], c⟩
    · rintro ⟨a, b, c⟩; exact ⟨⟨a, by simpa using b⟩, c⟩
theorem need_iff (L : List Nat) (M : Nat) (hB : ∀ n ∈ L, n < 1099511627776) (hM : M < 4611686018427387904) : (L.filter (within M)).foldl sans M = 0 ↔ (L.filter (within M)).foldl (· ||| ·) 0 = M := by
  have hB2 : ∀ n ∈ L.filter (within M), n < 18446744073709551616 := fun n hn => by have := hB n (List.mem_filter.1 hn).1; omega
  constructor
  · intro h
    apply Nat.eq_of_testBit_eq
    intro j
    rw [Bool.eq_iff_iff, orAll_bit, Nat.zero_testBit]
    constructor
    · rintro (q | ⟨n, hn, hj⟩)
      · cases q
      · have := (List.mem_filter.1 hn).2
        rw [within, beq_iff_eq] at this
        rw [← this, Nat.testBit_and, Bool.and_eq_true] at hj
        exact hj.1
    · intro hj
      refine .inr (Classical.byContradiction fun c => ?_)
      have h2 := (sansAll_bit _ M j hB2 (by omega)).2 ⟨hj, fun n hn hnj => c ⟨n, hn, hnj⟩⟩
      rw [h, Nat.zero_testBit] at h2
      cases h2
  · intro h
    apply Nat.eq_of_testBit_eq
    intro j
    rw [Bool.eq_iff_iff, sansAll_bit _ M j hB2 (by omega), Nat.zero_testBit]
    constructor
    · rintro ⟨a, b⟩
      rw [← h, orAll_bit, Nat.zero_testBit] at a
      rcases a with a | ⟨n, hn, hj⟩
      · cases a
      · exact absurd hj (b n hn)
    · intro q; cases q

/-! All ways to take or move matches: both list the same sets in one order. -/
def chN : Nat → Nat → List Nat → List Nat
  | 0, own, _ => [own]
  | _ + 1, _, [] => []
  | n + 1, own, b :: r => chN n (own ||| 2 ^ b) r ++ chN (n + 1) own r
theorem chN_lt {E : Nat} : ∀ (l : List Nat) (n own : Nat), own < 2 ^ E → (∀ b ∈ l, b < E) → ∀ m ∈ chN n own l, m < 2 ^ E
  | l, 0, own, h, _, m, hm => by rw [chN, List.mem_singleton] at hm; rw [hm]; exact h
  | [], _ + 1, _, _, _, m, hm => by cases hm
  | b :: r, n + 1, own, h, hl, m, hm => by
    rw [chN] at hm
    rcases List.mem_append.1 hm with hm | hm
    · exact chN_lt r n _ (Nat.or_lt_two_pow h (Nat.pow_lt_pow_right (by decide) (hl b List.mem_cons_self))) (fun x hx => hl x (List.mem_cons_of_mem _ hx)) m hm
    · exact chN_lt r (n + 1) own h (fun x hx => hl x (List.mem_cons_of_mem _ hx)) m hm
theorem chN_len : ∀ (l : List Nat) (n own : Nat), (chN n own l).length ≤ l.length ^ n
  | l, 0, own => by rw [chN]; simp
  | [], _ + 1, _ => by simp [chN]
  | b :: r, n + 1, own => by
    have h1 := chN_len r n (own ||| 2 ^ b)
    have h2 := chN_len r (n + 1) own
    rw [chN, List.length_append, List.length_cons, Nat.pow_succ]
    have h3 : r.length ^ n ≤ (r.length + 1) ^ n := Nat.pow_le_pow_left (Nat.le_succ _) n
    rw [Nat.pow_succ] at h2
    have h4 : r.length ^ n * r.length ≤ (r.length + 1) ^ n * r.length := Nat.mul_le_mul_right _ h3
    have h5 : (r.length + 1) ^ n * (r.length + 1) = (r.length + 1) ^ n * r.length + (r.length + 1) ^ n := Nat.mul_succ _ _
    omega
def cz (n : Nat) : Int := (n : Int)
theorem fI_nat {a b : Nat} (ha : a < 4611686018427387904) (hb : b < 62) : fI (a : Int) (b : Int) = ((a ||| 2 ^ b : Nat) : Int) := by
  have hp := pow62 hb
  unfold fI
  have e : IntKind.u64.wrap (2 ^ min ((b : Int)).toNat 64) = ((2 ^ b : Nat) : Int) := by
    rw [Int.toNat_natCast, Nat.min_eq_left (by omega)]
    have e2 : (2 : Int) ^ b = ((2 ^ b : Nat) : Int) := by rw [Int.natCast_pow]; rfl
    rw [e2]
    generalize 2 ^ b = q at hp ⊢
    simp [IntKind.wrap, IntKind.bits, IntKind.signed]
    omega
  rw [e, u64_or_nat _ _ (by omega) (by omega)]
theorem chI_eq : ∀ (l : List Nat) (n own : Nat), own < 2 ^ 62 → (∀ b ∈ l, b < 62) → chB fI n (own : Int) (l.map cz) = (chN n own l).map cz
  | l, 0, own, _, _ => by rw [chB, chN]; rfl
  | [], _ + 1, _, _, _ => rfl
  | b :: r, n + 1, own, h, hl => by
    have hb := hl b List.mem_cons_self
    have hr := fun x hx => hl x (List.mem_cons_of_mem b hx)
    rw [List.map_cons, chB, chN, List.map_append, show fI (own : Int) (cz b) = ((own ||| 2 ^ b : Nat) : Int) from fI_nat (by omega) hb, chI_eq r n _ (Nat.or_lt_two_pow h (Nat.pow_lt_pow_right (by decide) hb)) hr, chI_eq r (n + 1) own h hr]
theorem chS_eq : ∀ (l : List Nat) (n own : Nat), own < 2 ^ 62 → (∀ b ∈ l, b < 62) → chB fS n (own : Int) (l.map fun b => cz (2 ^ b)) = (chN n own l).map cz
  | l, 0, own, _, _ => by rw [chB, chN]; rfl
  | [], _ + 1, _, _, _ => rfl
  | b :: r, n + 1, own, h, hl => by
    have hb := hl b List.mem_cons_self
    have hp := pow62 hb
    have hr := fun x hx => hl x (List.mem_cons_of_mem b hx)
    rw [List.map_cons, chB, chN, List.map_append, show fS (own : Int) (cz (2 ^ b)) = ((own ||| 2 ^ b : Nat) : Int) from i64_or_nat (by omega) (by omega), chS_eq r n _ (Nat.or_lt_two_pow h (Nat.pow_lt_pow_right (by decide) hb)) hr, chS_eq r (n + 1) own h hr]
/-- the edges that a set has, and those that it lacks -/
def hvN (E M : Nat) : List Nat := (List.range E).filter fun j => M.testBit j
def frN (E M : Nat) : List Nat := (List.range E).filter fun j => !M.testBit j
theorem hvN_lt {E M : Nat} : ∀ b ∈ hvN E M, b < E := fun b hb => List.mem_range.1 (List.mem_filter.1 hb).1
theorem frN_lt {E M : Nat} : ∀ b ∈ frN E M, b < E := fun b hb => List.mem_range.1 (List.mem_filter.1 hb).1
theorem hvN_len (E M : Nat) : (hvN E M).length ≤ E := by
  have := List.length_filter_le (fun j => M.testBit j) (List.range E)
  rwa [List.length_range] at this
theorem frN_len (E M : Nat) : (frN E M).length ≤ E := by
  have := List.length_filter_le (fun j => !M.testBit j) (List.range E)
  rwa [List.length_range] at this
theorem bit_under {E M j : Nat} (hM : M < 2 ^ E) (h : M.testBit j = true) : j < E := by
  refine Nat.lt_of_not_le fun hj => ?_
  rw [Nat.testBit_lt_two_pow (Nat.lt_of_lt_of_le hM (Nat.pow_le_pow_right (by decide) hj))] at h
  cases h
theorem bitsOf_low {E M : Nat} (hE : E ≤ 64) (hM : M < 2 ^ E) : bitsOf 64 M = (hvN E M).map cz := by
  refine rising_ext (bitsOf_pairwise 64 M) (bitsOf_pairwise E M) (fun x => ?_)
  rw [mem_bitsOf]
  refine Iff.trans ?_ (mem_bitsOf (n := E) (m := M)).symm
  constructor
  · rintro ⟨j, e, _, h⟩; exact ⟨j, e, bit_under hM h, h⟩
  · rintro ⟨j, e, q, h⟩; exact ⟨j, e, by omega, h⟩
theorem free_list {E M : Nat} (hE : E ≤ 62) (hM : M < 2 ^ E) : bitsOf 64 (sans (2 ^ E - 1) M) = (frN E M).map cz := by
  have hp : 2 ^ E ≤ 2 ^ 62 := Nat.pow_le_pow_right (by decide) hE
  have e : frN E M = hvN E (sans (2 ^ E - 1) M) := by
    unfold frN hvN
    refine List.filter_congr fun j hj => ?_
    rw [sans_bit _ _ _ (by omega) (by omega), Nat.testBit_two_pow_sub_one, decide_eq_true (List.mem_range.1 hj), Bool.true_and]
  rw [e]
  exact bitsOf_low (by omega) (Nat.lt_of_le_of_lt (sans_le _ _) (by have := Nat.two_pow_pos E; omega))
theorem flat_congr {α β : Type} {f g : α → List β} {L : List α} (h : ∀ a ∈ L, f a = g a) : L.flatMap f = L.flatMap g := by
  rw [List.flatMap_def, List.flatMap_def, List.map_congr_left h]
theorem flat_one {α β : Type} (f : α → β) (L : List α) : L.flatMap (fun a => [f a]) = L.map f := by
  induction L with
  | nil => rfl
  | cons a L ih => rw [List.flatMap_cons, ih]; rfl
/-- what is made when some edges are gone, and others are laid -/
def mdN (mv : Bool) (n E M : Nat) : List Nat := if mv = true then (chN n 0 (hvN E M)).flatMap fun a => (chN n 0 (frN E M)).map fun b => sans M a ||| b else (chN n 0 (hvN E M)).map fun a => sans M a
theorem mdN_lt {mv : Bool} {n E M : Nat} (hM : M < 2 ^ E) : ∀ m ∈ mdN mv n E M, m < 2 ^ E := by
  intro m hm
  unfold mdN at hm
  cases mv with
  | true =>
    rw [if_pos rfl] at hm
    obtain ⟨a, ha, hm⟩ := List.mem_flatMap.1 hm
    obtain ⟨b, hb, rfl⟩ := List.mem_map.1 hm
    exact Nat.or_lt_two_pow (Nat.lt_of_le_of_lt (sans_le _ _) hM) (chN_lt _ _ _ (Nat.two_pow_pos _) frN_lt b hb)
  | false =>
    rw [if_neg (by simp)] at hm
    obtain ⟨a, ha, rfl⟩ := List.mem_map.1 hm
    exact Nat.lt_of_le_of_lt (sans_le _ _) hM
theorem p61 {E : Nat} (hE : E ≤ 61) : 2 ^ E < 4611686018427387904 := Nat.lt_of_le_of_lt (Nat.pow_le_pow_right (by decide) hE) (by decide)
section
variable {E M : Nat} (hE : E ≤ 61) (hM : M < 2 ^ E)
include hE hM
theorem inM_eq (mv : Bool) (n : Nat) : (chB fI n 0 ((hvN E M).map cz)).flatMap (inM mv n (M : Int) (if mv = true then (frN E M).map cz else [])) = (mdN mv n E M).map cz := by
  have hp := p61 hE
  have e1 := chI_eq (hvN E M) n 0 (by decide) (fun b hb => by have := hvN_lt b hb; omega)
  have e2 := chI_eq (frN E M) n 0 (by decide) (fun b hb => by have := frN_lt b hb; omega)
  rw [show ((0 : Nat) : Int) = 0 from rfl] at e1 e2
  rw [e1, List.flatMap_map]
  unfold mdN
  cases mv with
  | true =>
    rw [if_pos rfl, if_pos rfl, List.map_flatMap]
    refine flat_congr fun a ha => ?_
    have la := chN_lt _ _ _ (Nat.two_pow_pos E) hvN_lt a ha
    unfold inM
    rw [if_pos rfl, e2, List.map_map, List.map_map]
    refine List.map_congr_left fun b hb => ?_
    have lb := chN_lt _ _ _ (Nat.two_pow_pos E) frN_lt b hb
    show fM (M : Int) (a : Int) (b : Int) = _
    unfold fM
    rw [sans_u64 _ _ (by omega) (by omega), u64_or_nat _ _ (Nat.lt_of_le_of_lt (sans_le _ _) (by omega)) (by omega)]
    rfl
  | false =>
    rw [if_neg (by simp), if_neg (by simp), List.map_map]
    refine Eq.trans (flat_congr (g := fun a => [cz (sans M a)]) fun a ha => ?_) (flat_one (fun a => cz (sans M a)) _)
    have la := chN_lt _ _ _ (Nat.two_pow_pos E) hvN_lt a ha
    unfold inM
    rw [if_neg (by simp)]
    show [Go.bits .andNot .u64 (M : Int) (a : Int)] = _
    rw [sans_u64 _ _ (by omega) (by omega)]
    rfl
theorem moM_eq (n : Nat) : (chB fS n 0 ((hvN E M).map fun b => cz (2 ^ b))).map (moM (M : Int)) = (mdN false n E M).map cz := by
  have hp := p61 hE
  have e1 := chS_eq (hvN E M) n 0 (by decide) (fun b hb => by have := hvN_lt b hb; omega)
  rw [show ((0 : Nat) : Int) = 0 from rfl] at e1
  unfold mdN
  rw [e1, if_neg (by simp), List.map_map, List.map_map]
  refine List.map_congr_left fun a ha => ?_
  have la := chN_lt _ _ _ (Nat.two_pow_pos E) hvN_lt a ha
  show moM (M : Int) (a : Int) = _
  unfold moM
  rw [sans_i64 _ _ (by omega) (by omega)]
  rfl
theorem moL_eq (n : Nat) : ((chB fS n 0 ((hvN E M).map fun b => cz (2 ^ b))).flatMap fun a => (chB fS n 0 ((frN E M).map fun b => cz (2 ^ b))).map (moL (M : Int) a)) = (mdN true n E M).map cz := by
  have hp := p61 hE
  have e1 := chS_eq (hvN E M) n 0 (by decide) (fun b hb => by have := hvN_lt b hb; omega)
  have e2 := chS_eq (frN E M) n 0 (by decide) (fun b hb => by have := frN_lt b hb; omega)
  rw [show ((0 : Nat) : Int) = 0 from rfl] at e1 e2
  unfold mdN
  rw [e1, e2, if_pos rfl, List.flatMap_map, List.map_flatMap]
  refine flat_congr fun a ha => ?_
  have la := chN_lt _ _ _ (Nat.two_pow_pos E) hvN_lt a ha
  rw [List.map_map, List.map_map]
  refine List.map_congr_left fun b hb => ?_
  have lb := chN_lt _ _ _ (Nat.two_pow_pos E) frN_lt b hb
  show moL (M : Int) (a : Int) (b : Int) = _
  unfold moL
  rw [sans_i64 _ _ (by omega) (by omega), i64_or_nat (Nat.lt_of_le_of_lt (sans_le _ _) (by omega)) (by omega)]
  rfl
theorem moHv_eq : ∀ b ∈ List.range E, moHv (M : Int) (cz (2 ^ b)) = M.testBit b := by
  intro b hb
  have hp := p61 hE
  have h := and_bit M b (by omega) (by have := List.mem_range.1 hb; omega)
  unfold moHv
  cases hq : M.testBit b with
  | true => rw [bne_iff_ne]; intro e; rw [h.1 e] at hq; cases hq
  | false => rw [show Go.bits .and .i64 (M : Int) (cz (2 ^ b)) = 0 from h.2 hq]; rfl
theorem have_eq : (((List.range E).map fun b => cz (2 ^ b)).filter (moHv (M : Int))) = (hvN E M).map fun b => cz (2 ^ b) := by
  rw [List.filter_map]
  congr 1
  exact List.filter_congr (moHv_eq hE hM)
theorem lack_eq : (((List.range E).map fun b => cz (2 ^ b)).filter fun b => !moHv (M : Int) b) = (frN E M).map fun b => cz (2 ^ b) := by
  rw [List.filter_map]
  congr 1
  exact List.filter_congr fun b hb => congrArg not (moHv_eq hE hM b hb)
end

/-- is a set one of those that are looked for -/
def pN (w h : Nat) (squares : Int) (tidy : Bool) (m : Nat) : Bool := decide (((((sqEdges w h).filter (within m)).length : Nat) : Int) = squares) && (!tidy || decide (((sqEdges w h).filter (within m)).foldl sans m = 0))
section
variable {w h : Nat} (w1 : 1 ≤ w) (w4 : w ≤ 4) (h1 : 1 ≤ h) (h4 : h ≤ 4)
include w1 w4 h1 h4
theorem sqi_f (k : Nat) (hk : 4999 ≤ k) : ∃ qi, impl_grid_squares.f k w h = some qi ∧ qi.map (·.f3) = (sqEdges w h).map fun n : Nat => (n : Int) := by
  obtain ⟨_, S2, _, _⟩ := sq_ok w1 w4 h1 h4
  obtain ⟨qi, hqi, e2⟩ := Option.map_eq_some_iff.1 S2
  exact ⟨qi, at_rounds (impl_grid_squares.mono w h) hk hqi, e2⟩
theorem sqs_f (k : Nat) (hk : 4997 ≤ k) : ∃ qs, spec_sqAll.f k w h = some qs ∧ qs.map (·.f3) = (sqEdges w h).map fun n : Nat => (n : Int) := by
  obtain ⟨S1, _, _, _⟩ := sq_ok w1 w4 h1 h4
  obtain ⟨qs, hqs, e1⟩ := Option.map_eq_some_iff.1 S1
  exact ⟨qs, at_rounds (spec_sqAll.mono w h) hk hqs, e1⟩
theorem wiP_f {qi : List S127} (e : qi.map (·.f3) = (sqEdges w h).map fun n : Nat => (n : Int)) (k : Nat) (hk : 100 ≤ k) (squares : Int) (tidy : Bool) (m : Nat) (hm : m < 4611686018427387904) : wiP k qi squares tidy (m : Int) = pN w h squares tidy m := by
  obtain ⟨_, _, S3, S4⟩ := sq_ok w1 w4 h1 h4
  have hl := (rd77 e).1
  have c := countOf_l S3 S4 hm e (sqEdges w h).length 0 k 0 (Nat.zero_add _) (by omega) (by omega)
  have eo := of_map hm S4 e
  have fl : ((sqEdges w h).filter (within m)).length ≤ (sqEdges w h).length := List.length_filter_le _ _
  have n := needless_l (L := (sqEdges w h).filter (within m)) (by omega) (fun n hn => S4 n (List.mem_filter.1 hn).1) eo _ 0 k m (Nat.zero_add _) (by omega) (by omega)
  rw [List.drop_zero] at c n
  rw [Nat.zero_add] at c
  have c2 : impl_countOf.f k qi (m : Int) = some (((((sqEdges w h).filter (within m)).length : Nat) : Int)) := c
  have n2 : impl_needless.f k qi (m : Int) = some ((((sqEdges w h).filter (within m)).foldl sans m : Nat) : Int) := by
    unfold impl_needless.f impl_of.f
    rw [if_pos (by omega), Option.bind_some]
    exact n
  unfold wiP pN
  rw [c2, n2]
  generalize (((sqEdges w h).filter (within m)).foldl sans m) = z
  generalize ((sqEdges w h).filter (within m)).length = x
  have b1 : (some (x : Int) == some squares) = decide ((x : Int) = squares) := by rw [Bool.eq_iff_iff]; simp
  have b2 : (some (z : Int) == some (0 : Int)) = decide (z = 0) := by
    rw [Bool.eq_iff_iff, beq_iff_eq, decide_eq_true_eq]
    constructor
    · intro q; have := Option.some.inj q; omega
    · rintro rfl; rfl
  rw [b1, b2]
set_option maxHeartbeats 4000000 in
theorem those_l {qs : List S141} (e : qs.map (·.f3) = (sqEdges w h).map fun n : Nat => (n : Int)) (squares : Int) (tidy : Bool) (L : List Nat) (hL : ∀ m ∈ L, m < 4611686018427387904) (hl : L.length ≤ 1000000) : ∀ (d i k : Nat) (o : List Int), i + d = L.length → d + 100 < k → o.length + d ≤ 1000000 →
    spec_moThose.l0 k squares tidy qs o (L.map cz) (L.length : Int) (i : Int) = some (o ++ ((L.drop i).filter (pN w h squares tidy)).map cz)
  | 0, i, k, o, hi, hk, ho => by
    obtain ⟨k, rfl⟩ : ∃ q, k = q + 1 := ⟨k - 1, by omega⟩
    rw [spec_moThose.l0, if_neg (by omega), List.drop_of_length_le (by omega)]
    simp
  | d + 1, i, k, o, hi, hk, ho => by
    obtain ⟨k, rfl⟩ : ∃ q, k = q + 1 := ⟨k - 1, by omega⟩
    have hlt : i < L.length := by omega
    have hm := hL _ (List.getElem_mem hlt)
    obtain ⟨_, _, S3, S4⟩ := sq_ok w1 w4 h1 h4
    have er : rd (L.map cz) (i : Int) = ((L[i] : Nat) : Int) := by
      unfold rd
      rw [Int.toNat_natCast, List.getD_eq_getElem?_getD, List.getElem?_map, List.getElem?_eq_getElem hlt]
      rfl
    have c := sqCount_l S3 S4 hm e (sqEdges w h).length 0 k 0 (Nat.zero_add _) (by omega) (by omega)
    have n := sqNeeded_l S3 S4 hm e (sqEdges w h).length 0 k 0 (Nat.zero_add _) (by omega) (by omega)
    have nf := need_iff (sqEdges w h) L[i] S4 hm
    rw [List.drop_zero] at c n
    rw [Nat.zero_add] at c
    have x1 : (i : Int) < (L.length : Int) := by omega
    have x2 : (0 : Int) ≤ (i : Int) := by omega
    have x3 : (i : Int) < ((L.map cz).length : Int) := by rw [List.length_map]; omega
    have x4 : (o.length : Nat) < 17592186044416 := by omega
    have x5 : o.length + d ≤ 1000000 := by omega
    have x6 : ∀ v : Int, (o ++ [v]).length + d ≤ 1000000 := fun v => by rw [List.length_append, List.length_singleton]; omega
    have ih1 := fun o ho => those_l e squares tidy L hL hl d (i + 1) k o (by omega) (by omega) ho
    have hpd : pN w h squares tidy L[i] = (decide (((((sqEdges w h).filter (within L[i])).length : Nat) : Int) = squares) && (!tidy || decide (((sqEdges w h).filter (within L[i])).foldl sans L[i] = 0))) := rfl
    rw [spec_moThose.l0, if_pos x1, if_pos x2, if_pos x3, er, show wrap64 ((i : Int) + 1) = ((i + 1 : Nat) : Int) by rw [w64 _ (by omega) (by omega)]; omega, List.drop_eq_getElem_cons hlt]
    generalize pN w h squares tidy = pp at *
    generalize (sqEdges w h).filter (within L[i]) = LF at *
    clear S3 S4 e er
    generalize LF.length = C at *
    generalize LF.foldl (· ||| ·) 0 = NN at *
    generalize LF.foldl sans L[i] = ZZ at *
    have c2 : spec_sqCount.f k qs ((L[i] : Nat) : Int) = some (C : Int) := c
    have n2 : spec_sqNeeded.f k qs ((L[i] : Nat) : Int) = some (NN : Int) := n
    clear c n
    rw [c2, bnd, n2]
    have ap : ∀ t : List Int, o ++ [((L[i] : Nat) : Int)] ++ t = o ++ (cz L[i] :: t) := fun t => by rw [List.append_assoc]; rfl
    by_cases q1 : (C : Int) = squares
    · rw [decide_eq_true q1, Bool.true_and] at hpd
      rw [if_pos q1]
      cases tidy with
      | false =>
        have hp : pp L[i] = true := hpd
        rw [if_neg (by simp), if_pos x4, ih1 _ (x6 _), List.filter_cons_of_pos hp, List.map_cons, ap]
      | true =>
        rw [if_pos rfl, bnd]
        by_cases q2 : NN = L[i]
        · have hp : pp L[i] = true := by rw [hpd, decide_eq_true (nf.2 q2)]; rfl
          rw [if_pos (by rw [q2]), if_pos x4, ih1 _ (x6 _), List.filter_cons_of_pos hp, List.map_cons, ap]
        · have hp : ¬ pp L[i] = true := by
            rw [hpd, decide_eq_false (fun z => q2 (nf.1 z))]
            decide
          rw [if_neg (fun z : (NN : Int) = ((L[i] : Nat) : Int) => q2 (Int.ofNat.inj z)), ih1 _ x5, List.filter_cons_of_neg hp]
    · have hp : ¬ pp L[i] = true := by
        rw [hpd, decide_eq_false q1]
        simp
      rw [if_neg q1, ih1 _ x5, List.filter_cons_of_neg hp]
end
/-- so many edges -/
def ed (w h : Nat) : Nat := w * (h + 1) + h * (w + 1)
theorem ed_le {w h : Nat} (w1 : 1 ≤ w) (w4 : w ≤ 4) (h1 : 1 ≤ h) (h4 : h ≤ 4) (h9 : w * h ≤ 9) : ed w h ≤ 26 := by
  have : w = 1 ∨ w = 2 ∨ w = 3 ∨ w = 4 := by omega
  unfold ed
  rcases this with rfl | rfl | rfl | rfl <;> omega
theorem moBits_l (w h E : Nat) (hE : wrap64 ((wrap64 ((wrap64 ((wrap64 (2 * (w : Int))) * (h : Int))) + (w : Int))) + (h : Int)) = (E : Int)) (hE2 : E ≤ 60) : ∀ (d i k : Nat), i + d = E → d < k → spec_moBits.l0 k w h ((List.range i).map fun b => cz (2 ^ b)) (i : Int) = some ((List.range E).map fun b => cz (2 ^ b))
  | 0, i, k, hi, hk => by
    obtain ⟨k, rfl⟩ : ∃ q, k = q + 1 := ⟨k - 1, by omega⟩
    rw [spec_moBits.l0, hE, if_neg (by omega), show i = E by omega]
  | d + 1, i, k, hi, hk => by
    obtain ⟨k, rfl⟩ : ∃ q, k = q + 1 := ⟨k - 1, by omega⟩
    rw [spec_moBits.l0, hE, if_pos (by omega), if_pos (by omega), if_pos (by rw [List.length_map, List.length_range]; omega), shl_i64 i (by omega), show wrap64 ((i : Int) + 1) = ((i + 1 : Nat) : Int) by rw [w64 _ (by omega) (by omega)]; omega]
    have e : ((List.range i).map fun b => cz (2 ^ b)) ++ [((2 ^ i : Nat) : Int)] = (List.range (i + 1)).map fun b => cz (2 ^ b) := by
      rw [List.range_succ, List.map_append]
      rfl
    rw [e]
    exact moBits_l w h E hE hE2 d (i + 1) k (by omega) (by omega)
theorem moBits_f {w h : Nat} (w1 : 1 ≤ w) (w4 : w ≤ 4) (h1 : 1 ≤ h) (h4 : h ≤ 4) (h9 : w * h ≤ 9) (k : Nat) (hk : 70 ≤ k) : spec_moBits.f k w h = some ((List.range (ed w h)).map fun b => cz (2 ^ b)) := by
  have hE := ed_le w1 w4 h1 h4 h9
  refine moBits_l w h (ed w h) ?_ (by omega) (ed w h) 0 k (Nat.zero_add _) (by omega)
  have e1 : ((w : Int)) * (h : Int) = ((w * h : Nat) : Int) := by push_cast; rfl
  have e2 : (2 * (w : Int)) * (h : Int) = ((2 * (w * h) : Nat) : Int) := by push_cast; rw [Int.mul_assoc]
  have e3 : ed w h = 2 * (w * h) + w + h := by
    unfold ed
    rw [Nat.mul_add, Nat.mul_add, Nat.mul_comm h w]
    omega
  have a1 : wrap64 (2 * (w : Int)) = 2 * (w : Int) := w64 _ (by omega) (by omega)
  have a2 : wrap64 ((2 * (w * h) : Nat) : Int) = ((2 * (w * h) : Nat) : Int) := w64 _ (by omega) (by omega)
  have a3 : wrap64 (((2 * (w * h) : Nat) : Int) + (w : Int)) = ((2 * (w * h) + w : Nat) : Int) := by rw [w64 _ (by omega) (by omega)]; omega
  have a4 : wrap64 (((2 * (w * h) + w : Nat) : Int) + (h : Int)) = ((2 * (w * h) + w + h : Nat) : Int) := by rw [w64 _ (by omega) (by omega)]; omega
  rw [a1, e2, a2, a3, a4, e3]
/-- what is made, and looked for -/
def fdN (w h : Nat) (squares : Int) (mv tidy : Bool) (n M : Nat) : List Nat := (mdN mv n (ed w h) M).filter (pN w h squares tidy)
theorem all_f {w h : Nat} (w1 : 1 ≤ w) (w4 : w ≤ 4) (h1 : 1 ≤ h) (h4 : h ≤ 4) (h9 : w * h ≤ 9) : impl_grid_all.f w h = some ((2 ^ ed w h - 1 : Nat) : Int) := by
  have hE := ed_le w1 w4 h1 h4 h9
  obtain ⟨a1, a2, _, _, a5, a6⟩ := nums_nat w1 w4 h1 h4
  have hp := p61 (E := ed w h) (by omega)
  have hq := Nat.two_pow_pos (ed w h)
  have b5 : impl_grid_levels.f w h = some ((w * (h + 1) : Nat) : Int) := by unfold impl_grid_levels.f; rw [a5]
  have b6 : impl_grid_uprights.f w h = some ((h * (w + 1) : Nat) : Int) := by
    unfold impl_grid_uprights.f
    rw [← a6]
    congr 2
    rw [Int.mul_comm]
  have e : wrap64 (((w * (h + 1) : Nat) : Int) + ((h * (w + 1) : Nat) : Int)) = ((ed w h : Nat) : Int) := by
    rw [w64 _ (by omega) (by omega)]
    unfold ed
    omega
  unfold impl_grid_all.f
  rw [b5, b6, Option.bind_some, Option.bind_some, e, if_pos (Int.natCast_nonneg _), shl_one _ (Int.natCast_nonneg _) (by omega), Int.toNat_natCast]
  congr 1
  generalize 2 ^ ed w h = q at hp hq ⊢
  simp [IntKind.wrap, IntKind.bits, IntKind.signed]
  omega
section
variable {w h : Nat} {l2 l3 : List Int} (F : FigOK (w : Int) (h : Int) l2 l3) (h9 : (w : Int) * (h : Int) ≤ 9)
include F h9
theorem ways_ed : 1 ≤ w ∧ w ≤ 4 ∧ 1 ≤ h ∧ h ≤ 4 ∧ w * h ≤ 9 ∧ maskN w h l2 l3 < 2 ^ ed w h := by
  obtain ⟨wn, hn, e1, e2, w1, w4, h1, h4⟩ := F.grid
  have := Int.ofNat.inj e1
  have := Int.ofNat.inj e2
  subst wn hn
  exact ⟨w1, w4, h1, h4, by have : ((w * h : Nat) : Int) = (w : Int) * (h : Int) := by push_cast; rfl
                            omega, mask_small w1 w4 h1 h4 F⟩
theorem mdN_len (mv : Bool) (n : Nat) (hn : n ≤ 4) (hmv : mv = true → n ≤ 2) : (chN n 0 (hvN (ed w h) (maskN w h l2 l3))).length * (if mv = true then (chN n 0 (frN (ed w h) (maskN w h l2 l3))).length else 1) ≤ 1000000 := by
  obtain ⟨w1, w4, h1, h4, q9, hM⟩ := ways_ed F h9
  have hE := ed_le w1 w4 h1 h4 q9
  have a := chN_len (hvN (ed w h) (maskN w h l2 l3)) n 0
  have b := chN_len (frN (ed w h) (maskN w h l2 l3)) n 0
  have la := hvN_len (ed w h) (maskN w h l2 l3)
  have lb := frN_len (ed w h) (maskN w h l2 l3)
  have a2 := Nat.le_trans a (Nat.pow_le_pow_left (Nat.le_trans la hE) n)
  have b2 := Nat.le_trans b (Nat.pow_le_pow_left (Nat.le_trans lb hE) n)
  cases mv with
  | true =>
    rw [if_pos rfl]
    have hn2 := hmv rfl
    have e : (26 : Nat) ^ n ≤ 26 ^ 2 := Nat.pow_le_pow_right (by decide) hn2
    exact Nat.le_trans (Nat.mul_le_mul (Nat.le_trans a2 e) (Nat.le_trans b2 e)) (by decide)
  | false =>
    rw [if_neg (by simp), Nat.mul_one]
    have e : (26 : Nat) ^ n ≤ 26 ^ 4 := Nat.pow_le_pow_right (by decide) hn
    exact Nat.le_trans (Nat.le_trans a2 e) (by decide)
end

section
variable {w h : Nat} {l2 l3 : List Int} (F : FigOK (w : Int) (h : Int) l2 l3) (h9 : (w : Int) * (h : Int) ≤ 9)
include F h9
theorem with_f (n : Nat) (mv tidy : Bool) (squares : Int) (hn : n ≤ 4) (hmv : mv = true → n ≤ 2) (k : Nat) (hk : 6000 ≤ k) : impl_way_with.f k w h l2 l3 n mv squares tidy = some ((fdN w h squares mv tidy n (maskN w h l2 l3)).map cz) := by
  obtain ⟨w1, w4, h1, h4, q9, hM⟩ := ways_ed F h9
  have hE := ed_le w1 w4 h1 h4 q9
  obtain ⟨_, _, f2, f3⟩ := F.small
  have hlen := mdN_len F h9 mv n hn hmv
  obtain ⟨qi, hqi, e2⟩ := sqi_f w1 w4 h1 h4 k (by omega)
  have S3 := (sq_ok w1 w4 h1 h4).2.2.1
  have hql := (rd77 e2).1
  have hp := p61 (E := ed w h) (by omega)
  have hq := Nat.two_pow_pos (ed w h)
  have hs := set_f F (by omega) (by omega) k (by omega)
  have hwp := fun m hm => wiP_f w1 w4 h1 h4 e2 k (by omega) squares tidy m hm
  have hall := all_f w1 w4 h1 h4 q9
  generalize maskN (w : Int) (h : Int) l2 l3 = M at *
  have hlg := listed_f M (by omega) k (by omega)
  rw [bitsOf_low (E := ed w h) (by omega) hM] at hlg
  have hfr := listed_f (sans (2 ^ ed w h - 1) M) (Nat.lt_of_le_of_lt (sans_le _ _) (by omega)) k (by omega)
  rw [free_list (by omega) hM] at hfr
  have hwf : wiF k w h mv (M : Int) = some (if mv = true then (frN (ed w h) M).map cz else []) := by
    unfold wiF
    cases mv with
    | true => rw [if_pos rfl, if_pos rfl, hall, bnd, sans_u64 _ _ (by omega) (by omega), hfr]
    | false => rw [if_neg (by simp), if_neg (by simp)]
  have hin : inL mv n (if mv = true then (frN (ed w h) M).map cz else []) = if mv = true then (chN n 0 (frN (ed w h) M)).length else 1 := by
    unfold inL
    cases mv with
    | true =>
      have e := chI_eq (frN (ed w h) M) n 0 (by decide) (fun b hb => by have := frN_lt b hb; omega)
      rw [if_pos rfl, if_pos rfl, if_pos rfl, show (0 : Int) = ((0 : Nat) : Int) from rfl, e, List.length_map]
    | false => rfl
  have hcl : (chB fI n 0 ((hvN (ed w h) M).map cz)).length = (chN n 0 (hvN (ed w h) M)).length := by
    have e := chI_eq (hvN (ed w h) M) n 0 (by decide) (fun b hb => by have := hvN_lt b hb; omega)
    rw [show (0 : Int) = ((0 : Nat) : Int) from rfl, e, List.length_map]
  have hll : (if mv = true then (frN (ed w h) M).map cz else []).length ≤ 1000000 := by
    have := frN_len (ed w h) M
    split <;> simp <;> omega
  have hll2 := hvN_len (ed w h) M
  have hpos : ∀ b ∈ (if mv = true then (frN (ed w h) M).map cz else []), 0 ≤ b := by
    intro b hb
    split at hb
    · obtain ⟨x, _, rfl⟩ := List.mem_map.1 hb; exact Int.natCast_nonneg _
    · cases hb
  have hpos2 : ∀ b ∈ (hvN (ed w h) M).map cz, 0 ≤ b := by
    intro b hb
    obtain ⟨x, _, rfl⟩ := List.mem_map.1 hb
    exact Int.natCast_nonneg _
  unfold impl_way_with.f
  rw [hqi, bnd, hs, bnd, hlg, bnd, hwf, bnd, Int.toNat_natCast]
  rw [if_pos ⟨Int.natCast_nonneg _, by omega, by omega, by omega, by rw [List.length_map]; omega, hll, hpos2, hpos, by rw [hcl, hin]; exact hlen⟩]
  rw [inM_eq (by omega) hM mv n, List.filter_map]
  congr 2
  refine List.filter_congr fun m hm => ?_
  have hm2 := mdN_lt hM m hm
  exact hwp m (by omega)
theorem those_f (n : Nat) (mv tidy : Bool) (squares : Int) (hn : n ≤ 4) (hmv : mv = true → n ≤ 2) (k : Nat) (hk : 1006000 ≤ k) : spec_moThose.f k w h l2 l3 n squares mv tidy = some ((fdN w h squares mv tidy n (maskN w h l2 l3)).map cz) := by
  obtain ⟨w1, w4, h1, h4, q9, hM⟩ := ways_ed F h9
  have hE := ed_le w1 w4 h1 h4 q9
  have hlen := mdN_len F h9 mv n hn hmv
  obtain ⟨qs, hqs, e1⟩ := sqs_f w1 w4 h1 h4 k (by omega)
  have hp := p61 (E := ed w h) (by omega)
  have hs := sqMask_f F k (by omega)
  have hb := moBits_f w1 w4 h1 h4 q9 k (by omega)
  have hth := fun L hL hl => those_l w1 w4 h1 h4 e1 squares tidy L hL hl L.length 0 k []
  generalize maskN (w : Int) (h : Int) l2 l3 = M at *
  have c1 := chS_eq (hvN (ed w h) M) n 0 (by decide) (fun b hb => by have := hvN_lt b hb; omega)
  have c2 := chS_eq (frN (ed w h) M) n 0 (by decide) (fun b hb => by have := frN_lt b hb; omega)
  rw [show ((0 : Nat) : Int) = 0 from rfl] at c1 c2
  have q1 : (chB fS n 0 ((hvN (ed w h) M).map fun b => cz (2 ^ b))).length = (chN n 0 (hvN (ed w h) M)).length := by rw [c1, List.length_map]
  have q2 : (chB fS n 0 ((frN (ed w h) M).map fun b => cz (2 ^ b))).length = (chN n 0 (frN (ed w h) M)).length := by rw [c2, List.length_map]
  have hml : (mdN mv n (ed w h) M).length ≤ 1000000 := by
    unfold mdN
    cases mv with
    | true =>
      rw [if_pos rfl] at hlen ⊢
      have fl : ∀ L : List Nat, (L.flatMap fun a => (chN n 0 (frN (ed w h) M)).map fun b => sans M a ||| b).length = L.length * (chN n 0 (frN (ed w h) M)).length := by
        intro L
        induction L with
        | nil => simp
        | cons a L ih => rw [List.flatMap_cons, List.length_append, ih, List.length_map, List.length_cons, Nat.add_mul, Nat.one_mul, Nat.add_comm]
      rw [fl]
      exact hlen
    | false =>
      rw [if_neg (by simp)] at hlen ⊢
      rw [List.length_map]
      omega
  have hmm : spec_moMade.f k w h l2 l3 n mv = some ((mdN mv n (ed w h) M).map cz) := by
    have hE2 : ed w h ≤ 60 := by omega
    have hpos : (0 : Int) ≤ (n : Int) := Int.natCast_nonneg _
    have hle : (n : Int) ≤ 1000000 := by omega
    have hbl : ((List.range (ed w h)).map fun b => cz (2 ^ b)).length ≤ 1000 := by rw [List.length_map, List.length_range]; omega
    have hv1 : (chN n 0 (hvN (ed w h) M)).length ≤ 1000000 := by
      cases mv with
      | true =>
        rw [if_pos rfl] at hlen
        by_cases hz : (chN n 0 (frN (ed w h) M)).length = 0
        · have a1 := chN_len (hvN (ed w h) M) n 0
          have a2 : (hvN (ed w h) M).length ≤ 26 := Nat.le_trans (hvN_len _ _) hE
          have a3 : (hvN (ed w h) M).length ^ n ≤ 26 ^ n := Nat.pow_le_pow_left a2 n
          have a4 : 26 ^ n ≤ 26 ^ 4 := Nat.pow_le_pow_right (by decide) hn
          have a5 : (26 : Nat) ^ 4 ≤ 1000000 := by decide
          omega
        · exact Nat.le_trans (Nat.le_mul_of_pos_right _ (Nat.pos_of_ne_zero hz)) hlen
      | false => rw [if_neg (by simp)] at hlen; omega
    have hv2 : mv = true → (chN n 0 (frN (ed w h) M)).length ≤ 1000000 := by
      intro e
      have a1 := chN_len (frN (ed w h) M) n 0
      have a2 : (frN (ed w h) M).length ≤ 26 := Nat.le_trans (frN_len _ _) hE
      have a3 : (frN (ed w h) M).length ^ n ≤ 26 ^ n := Nat.pow_le_pow_left a2 n
      have a4 : 26 ^ n ≤ 26 ^ 4 := Nat.pow_le_pow_right (by decide) hn
      have a5 : (26 : Nat) ^ 4 ≤ 1000000 := by decide
      omega
    have hM62 : M < 2 ^ ed w h := hM
    unfold spec_moMade.f
    rw [hs, bnd, hb, bnd, Int.toNat_natCast, have_eq (by omega) hM, lack_eq (by omega) hM]
    have hml2 : mv = true → (chB fS n 0 ((frN (ed w h) M).map fun b => cz (2 ^ b))).length ≤ 1000000 ∧ ((chB fS n 0 ((hvN (ed w h) M).map fun b => cz (2 ^ b))).flatMap fun a => (chB fS n 0 ((frN (ed w h) M).map fun b => cz (2 ^ b))).map (moL (M : Int) a)).length ≤ 1000000 := by
      intro e
      subst e
      refine ⟨by rw [q2]; exact hv2 rfl, ?_⟩
      rw [moL_eq (by omega) hM n, List.length_map]
      exact hml
    rw [if_pos ⟨hpos, hle, hbl, by rw [q1]; exact hv1, hml2⟩]
    cases mv with
    | true => rw [if_pos rfl, moL_eq (by omega) hM n]
    | false => rw [if_neg (by simp), moM_eq (by omega) hM n]
  have hmL : ∀ m ∈ mdN mv n (ed w h) M, m < 4611686018427387904 := fun m hm => Nat.lt_trans (mdN_lt hM m hm) hp
  have e := hth (mdN mv n (ed w h) M) hmL hml (Nat.zero_add _) (by omega) (by rw [List.length_nil]; omega)
  unfold spec_moThose.f
  rw [hqs, bnd, hmm, bnd, List.length_map]
  rw [List.drop_zero, List.nil_append] at e
  exact e
end

/-! A law's tests of what came back: its own marks read back, and equal to itself. -/
theorem eqInt_l (l : List Int) (hn : l.length ≤ 1000000) : ∀ (d i k : Nat), i + d = l.length → d < k → laws_eqIntS.l0 k l l (i : Int) = some true := by
  intro d
  induction d with
  | zero =>
    intro i k hi hk
    obtain ⟨k, rfl⟩ : ∃ q, k = q + 1 := ⟨k - 1, by omega⟩
    simp only [laws_eqIntS.l0]
    rw [if_neg (by omega)]
  | succ d ih =>
    intro i k hi hk
    obtain ⟨k, rfl⟩ : ∃ q, k = q + 1 := ⟨k - 1, by omega⟩
    simp only [laws_eqIntS.l0]
    rw [if_pos (by omega), if_pos (by omega), if_pos (by omega), if_pos trivial, w64 ((i : Int) + 1) (by omega) (by omega)]
    exact ih (i + 1) k (by omega) (by omega)
theorem eqInt_f (l : List Int) (hn : l.length ≤ 1000000) (k : Nat) (hk : l.length + 1 ≤ k) : laws_eqIntS.f k l l = some true := by
  unfold laws_eqIntS.f
  rw [if_pos rfl]
  exact eqInt_l l hn l.length 0 k (by omega) (by omega)
theorem rd_set (l : List Int) (i j : Nat) (v : Int) (hj : j < l.length) : rd (l.set i v) (j : Int) = if i = j then v else rd l (j : Int) := by
  simp [rd, List.getElem?_set]
  by_cases h : i = j
  · subst h; simp [hj]
  · simp [h]
theorem mark_l : ∀ (d : Nat) (x : List Int) (a : Int) (i k : Nat), i + d = x.length → d < k → x.length ≤ 1000000 → 0 ≤ a → a + d ≤ 4611686018427387904 → 
    ∃ y, laws_markIntS.l0 k x a (i : Int) = some (a + d, y) ∧ y.length = x.length ∧ (∀ j, j < i → rd y (j : Int) = rd x (j : Int)) ∧ ∀ j, i ≤ j → j < x.length → rd y (j : Int) = a + ((j : Int) - (i : Int)) := by
  intro d
  induction d with
  | zero =>
    intro x a i k hi hk hn h0 h1
    obtain ⟨k, rfl⟩ : ∃ q, k = q + 1 := ⟨k - 1, by omega⟩
    simp only [laws_markIntS.l0]
    rw [if_neg (by omega)]
    exact ⟨x, by simp, rfl, fun j hj => rfl, fun j hj hl => by omega⟩
  | succ d ih =>
    intro x a i k hi hk hn h0 h1
    obtain ⟨k, rfl⟩ : ∃ q, k = q + 1 := ⟨k - 1, by omega⟩
    simp only [laws_markIntS.l0]
    rw [if_pos (by omega), if_pos (by omega), Int.toNat_natCast, w64 ((i : Int) + 1) (by omega) (by omega), w64 (a + 1) (by omega) (by omega)]
    obtain ⟨y, e, hl, hb, ha⟩ := ih (x.set i a) (a + 1) (i + 1) k (by rw [List.length_set]; omega) (by omega) (by rw [List.length_set]; omega) (by omega) (by omega)
    rw [List.length_set] at hl ha
    refine ⟨y, ?_, hl, fun j hj => ?_, fun j hj hl2 => ?_⟩
    · rw [show ((i : Int) + 1) = ((i + 1 : Nat) : Int) by omega, e]
      congr 2; omega
    · rw [hb j (by omega), rd_set x i j a (by omega), if_neg (by omega)]
    · by_cases hij : i = j
      · subst hij
        rw [hb i (by omega), rd_set x i i a (by omega), if_pos rfl]; omega
      · rw [ha j (by omega) hl2]; omega
theorem held_l (x : List Int) (hn : x.length ≤ 1000000) : ∀ (d : Nat) (a : Int) (i k : Nat), i + d = x.length → d < k → 0 ≤ a → a + d ≤ 4611686018427387904 → (∀ j, i ≤ j → j < x.length → rd x (j : Int) = a + ((j : Int) - (i : Int))) → laws_heldIntS.l0 k x a (i : Int) = some (a + d) := by
  intro d
  induction d with
  | zero =>
    intro a i k hi hk h0 h1 h
    obtain ⟨k, rfl⟩ : ∃ q, k = q + 1 := ⟨k - 1, by omega⟩
    simp only [laws_heldIntS.l0]
    rw [if_neg (by omega)]
    simp
  | succ d ih =>
    intro a i k hi hk h0 h1 h
    obtain ⟨k, rfl⟩ : ∃ q, k = q + 1 := ⟨k - 1, by omega⟩
    simp only [laws_heldIntS.l0]
    rw [if_pos (by omega), if_pos (by omega), if_pos (by rw [h i (Nat.le_refl _) (by omega)]; omega), w64 ((i : Int) + 1) (by omega) (by omega), w64 (a + 1) (by omega) (by omega), show ((i : Int) + 1) = ((i + 1 : Nat) : Int) by omega, ih (a + 1) (i + 1) k (by omega) (by omega) (by omega) (by omega) (fun j hj hl => by rw [h j (by omega) hl]; omega)]
    congr 1; omega
theorem mark_f (x : List Int) (a : Int) (k : Nat) (hk : x.length + 1 ≤ k) (hn : x.length ≤ 1000000) (h0 : 0 ≤ a) (h1 : a ≤ 2305843009213693952) :
    ∃ y, laws_markIntS.f k x a = some (a + x.length, y) ∧ ∀ q, x.length + 1 ≤ q → laws_heldIntS.f q y a = some (a + x.length) := by
  obtain ⟨y, e, hl, _, ha⟩ := mark_l x.length x a 0 k (by omega) (by omega) hn h0 (by omega)
  refine ⟨y, e, fun q hq => ?_⟩
  have := held_l y (by omega) y.length a 0 q (by omega) (by omega) h0 (by omega) (fun j hj hl2 => by simpa using ha j hj (by omega))
  rw [hl] at this
  exact this

/-! Figures that are written over, where no figure is looked at again by itself. -/
theorem markFig_g (w h : Int) (l2 l3 : List Int) (k : Nat) (hk : l2.length + l3.length + 2 ≤ k) (hn : l2.length ≤ 1000000) (hn3 : l3.length ≤ 1000000) : ∃ y2 y3 n, laws_markFigure.f k w h l2 l3 101 = some (n, y2, y3) ∧ 0 ≤ n := by
  obtain ⟨y2, e2, f2⟩ := mark_f l2 101 k (by omega) hn (by omega) (by omega)
  obtain ⟨y3, e3, f3⟩ := mark_f l3 (101 + l2.length) k (by omega) hn3 (by omega) (by omega)
  refine ⟨y2, y3, 101 + l2.length + l3.length, ?_, by omega⟩
  simp only [laws_markFigure.f, e2, e3, Option.bind_some]
theorem eqs_Figure (w h : Int) (l2 l3 : List Int) (k : Nat) (hk : l2.length + l3.length + 2 ≤ k) (hn : l2.length ≤ 1000000) (hn3 : l3.length ≤ 1000000) : laws_eqFigure.f k w h l2 l3 w h l2 l3 = some true := by
  simp only [laws_eqFigure.f, eqInt_f l2 hn k (by omega), eqInt_f l3 hn3 k (by omega), if_true, Option.bind_some]
theorem marks_Puzzle (w h : Int) (l2 l3 : List Int) (d4 : Int) (d5 : Bool) (d6 : Int) (k : Nat) (hk : l2.length + l3.length + 2 ≤ k) (hn : l2.length ≤ 1000000) (hn3 : l3.length ≤ 1000000) : ∃ y2 y3 n, laws_markPuzzle.f k w h l2 l3 d4 d5 d6 101 = some (n, y2, y3) ∧ True ∧ 0 ≤ n := by
  obtain ⟨y2, y3, n, h1, h3⟩ := markFig_g w h l2 l3 k hk hn hn3
  refine ⟨y2, y3, n, ?_, trivial, h3⟩
  unfold laws_markPuzzle.f; rw [h1]; rfl

/-! The law's measure of its arguments: a list each is taken off what is left. -/
theorem sz_int (l : List Int) (a : Int) (h0 : 0 ≤ a) (ha : a ≤ 1000000) (hl : l.length ≤ maxLen) : ∃ r, laws_szIntS.f l a = some r ∧ (0 ≤ r → r = a - l.length) ∧ r ≤ 1000000 := by
  unfold laws_szIntS.f
  unfold maxLen at hl
  rw [w64 _ (by omega) (by omega)]
  by_cases hc : a - (l.length : Int) < 0
  · rw [if_pos hc]; exact ⟨_, rfl, by omega, by omega⟩
  · rw [if_neg hc]; exact ⟨_, rfl, fun _ => rfl, by omega⟩
theorem sz_fig (w h : Int) (l2 l3 : List Int) (a : Int) (h0 : 0 ≤ a) (ha : a ≤ 1000000) (h2 : l2.length ≤ maxLen) (h3 : l3.length ≤ maxLen) : ∃ r, laws_szFigure.f w h l2 l3 a = some r ∧ (0 ≤ r → r = a - l2.length - l3.length) ∧ r ≤ 1000000 := by
  unfold laws_szFigure.f
  obtain ⟨r, hr, i, j⟩ := sz_int l2 a h0 ha h2
  rw [hr]
  simp only [Option.bind_some]
  by_cases hc : r < 0
  · rw [if_pos hc]; exact ⟨_, rfl, by omega, by omega⟩
  · rw [if_neg hc]
    obtain ⟨s, hs, i2, j2⟩ := sz_int l3 r (by omega) j h3
    rw [hs]
    simp only [Option.bind_some]
    by_cases hd : s < 0
    · rw [if_pos hd]; exact ⟨_, rfl, by omega, by omega⟩
    · rw [if_neg hd]; exact ⟨_, rfl, fun _ => by rw [i2 (by omega), i (by omega)], by omega⟩

theorem sz_puzzle (w h : Int) (l2 l3 : List Int) (d4 : Int) (d5 : Bool) (d6 a : Int) (h0 : 0 ≤ a) (ha : a ≤ 1000000) (h2 : l2.length ≤ maxLen) (h3 : l3.length ≤ maxLen) : ∃ r, laws_szPuzzle.f w h l2 l3 d4 d5 d6 a = some r ∧ (0 ≤ r → r = a - l2.length - l3.length) ∧ r ≤ 1000000 := by
  unfold laws_szPuzzle.f
  obtain ⟨r, hr, i, j⟩ := sz_fig w h l2 l3 a h0 ha h2 h3
  rw [hr]
  simp only [Option.bind_some]
  by_cases hc : r < 0
  · rw [if_pos hc]; exact ⟨_, rfl, by omega, by omega⟩
  · rw [if_neg hc]; exact ⟨_, rfl, fun _ => i (by omega), by omega⟩

section
variable {H : Type} {enc : TypeId × Value → H} {P : Program} {W : World} {base : Nat} {held : Bool}
theorem open_row {t e : TypeId} {fuel : Nat} {v : Value} {x : DataW H × List MemPlace} (ht : P.underlying t = some (.slice e)) (he : P.underlying e = some (.int .i64)) (hc : P.cellsOf e = 1)
    (h : DataW.trod enc P W base (fun _ => true) held fuel t [v] = some x) :
    ∃ (A : Option Addr) (c : Nat) (l : List Int), v = .slice A l.length c ∧ l.length ≤ c ∧ l.length ≤ maxLen ∧ Kd.C (Kd.int .i64) W A l.length l ∧ ∀ n ∈ l, (Lit.int .i64 n).wf = true := by
  rcases open_ints ht he hc h with ⟨hcs, _⟩ | ⟨a, len, cap, zs, hcs, _, hl, hm, hz, _, hcell, hwf⟩
  · simp only [List.cons.injEq, and_true] at hcs
    subst hcs
    exact ⟨none, 0, [], rfl, Nat.le_refl _, Nat.zero_le _, Kd.C_nil _ _, fun n hn => by cases hn⟩
  · simp only [List.cons.injEq, and_true] at hcs
    subst hcs
    have hz2 : zs.length = cap := by simpa using hz
    have hlen : (zs.take len).length = len := by rw [List.length_take]; omega
    refine ⟨some a, cap, zs.take len, by rw [hlen], by omega, by omega, ?_, fun n hn => hwf n (List.mem_of_mem_take hn)⟩
    refine Kd.C_of_reads (d := (0 : Int)) (h1 := fun _ => rfl) ⟨rfl, by unfold maxLen at hm; omega, fun _ => ⟨a, rfl, fun j hj => ?_⟩⟩
    rw [hcell j (by omega)]
    rw [List.getD_eq_getElem?_getD, List.getD_eq_getElem?_getD, List.getElem?_take_of_lt (by omega)]
theorem open_num {t : TypeId} {fuel : Nat} {v : Value} {x : DataW H × List MemPlace} (ht : P.underlying t = some (.int .i64)) (h : DataW.trod enc P W base (fun _ => true) held fuel t [v] = some x) :
    ∃ n : Int, v = .int .i64 n ∧ (Lit.int .i64 n).wf = true := by
  obtain ⟨n, hv, _, hw⟩ := DataW.trod_int ht h
  simp only [List.cons.injEq, and_true] at hv
  exact ⟨n, hv, hw⟩
end
theorem cells1 : Tryz.prog.cellsOf 3 = 1 := by kernel_rfl
theorem cells2 : Tryz.prog.cellsOf 22 = 1 := by kernel_rfl
theorem cells3 : Tryz.prog.cellsOf 24 = 4 := by kernel_rfl
/-- a figure that came in, as cells -/
structure FigIn (W : World) (cs : List Value) (a0 a1 : Int) (A2 : Option Addr) (c2 : Nat) (l2 : List Int) (A3 : Option Addr) (c3 : Nat) (l3 : List Int) : Prop where
  cells : cs = [.int .i64 a0, .int .i64 a1, .slice A2 l2.length c2, .slice A3 l3.length c3]
  w0 : (Lit.int .i64 a0).wf = true
  w1 : (Lit.int .i64 a1).wf = true
  hc2 : l2.length ≤ c2
  hm2 : l2.length ≤ maxLen
  hr2 : Kd.C (Kd.int .i64) W A2 l2.length l2
  w2 : ∀ n ∈ l2, (Lit.int .i64 n).wf = true
  hc3 : l3.length ≤ c3
  hm3 : l3.length ≤ maxLen
  hr3 : Kd.C (Kd.int .i64) W A3 l3.length l3
  w3 : ∀ n ∈ l3, (Lit.int .i64 n).wf = true
/-- what the pure part may lean on: an argument that the law measures -/
structure FigW (a0 a1 : Int) (l2 l3 : List Int) : Prop where
  n2 : l2.length ≤ 1000000
  n3 : l3.length ≤ 1000000
  b0 : -9223372036854775808 ≤ a0 ∧ a0 ≤ 9223372036854775807
  b1 : -9223372036854775808 ≤ a1 ∧ a1 ≤ 9223372036854775807
theorem wf_range {n : Int} (h : (Lit.int .i64 n).wf = true) : -9223372036854775808 ≤ n ∧ n ≤ 9223372036854775807 := by
  have h2 : IntKind.i64.min ≤ n ∧ n ≤ IntKind.i64.max := by simpa [Lit.wf] using h
  exact h2
theorem FigIn.w {W : World} {cs : List Value} {a0 a1 : Int} {A2 : Option Addr} {c2 : Nat} {l2 : List Int} {A3 : Option Addr} {c3 : Nat} {l3 : List Int} (F : FigIn W cs a0 a1 A2 c2 l2 A3 c3 l3) (h2 : l2.length ≤ 1000000) (h3 : l3.length ≤ 1000000) : FigW a0 a1 l2 l3 :=
  ⟨h2, h3, wf_range F.w0, wf_range F.w1⟩
set_option maxRecDepth 100000 in
theorem open_fig {H : Type} {enc : TypeId × Value → H} {W : World} {base : Nat} {held : Bool} {fuel : Nat} {cs : List Value} {x : DataW H × List MemPlace} (h : DataW.trod enc Tryz.prog W base (fun _ => true) held fuel 24 cs = some x) :
    ∃ a0 a1 A2 c2 l2 A3 c3 l3, FigIn W cs a0 a1 A2 c2 l2 A3 c3 l3 := by
  obtain ⟨y0, y1, y2, y3, n, _, hl, h0, h1, h2, h3⟩ := trod_struct4 Tryz.underlying24 h
  rw [cells3] at hl
  match cs, hl with
  | [k0, k1, k2, k3], _ =>
    simp only [cells1, cells2, List.drop, List.take] at h0 h1 h2 h3
    obtain ⟨a0, rfl, w0⟩ := open_num Tryz.underlying3 h0
    obtain ⟨a1, rfl, w1⟩ := open_num Tryz.underlying3 h1
    obtain ⟨A2, c2, l2, rfl, hc2, hm2, hr2, w2⟩ := open_row Tryz.underlying22 Tryz.underlying3 cells1 h2
    obtain ⟨A3, c3, l3, rfl, hc3, hm3, hr3, w3⟩ := open_row Tryz.underlying22 Tryz.underlying3 cells1 h3
    exact ⟨a0, a1, A2, c2, l2, A3, c3, l3, rfl, w0, w1, hc2, hm2, hr2, w2, hc3, hm3, hr3, w3⟩

theorem cells5 : Tryz.prog.cellsOf 26 = 7 := by kernel_rfl
theorem cells6 : Tryz.prog.cellsOf 4 = 1 := by kernel_rfl
set_option maxRecDepth 100000 in
theorem open_puzzle {H : Type} {enc : TypeId × Value → H} {W : World} {base : Nat} {held : Bool} {r : Reach} {b0 : Nat} {v : Value} {d : DataW H} {p : List MemPlace} (hv : Value.okWide Tryz.prog W r b0 26 v) (h : DataW.Trod enc Tryz.prog W base (fun _ => true) held 26 v d p) :
    ∃ a0 a1 A2 c2 l2 A3 c3 l3 d4 d5 d6, v = .agg #[.int .i64 a0, .int .i64 a1, .slice A2 l2.length c2, .slice A3 l3.length c3, .int .i64 d4, .bool d5, .int .i64 d6] ∧ (Lit.int .i64 d4).wf = true ∧ (Lit.int .i64 d6).wf = true ∧ FigIn W [.int .i64 a0, .int .i64 a1, .slice A2 l2.length c2, .slice A3 l3.length c3] a0 a1 A2 c2 l2 A3 c3 l3 := by
  obtain ⟨cs, rfl, hsz⟩ := okWide_struct Tryz.underlying26 hv
  rw [cells5] at hsz
  obtain ⟨fuel, hf⟩ := h
  obtain ⟨y0, y1, y2, y3, n, _, _, h0, h1, h2, h3⟩ := trod_struct4 Tryz.underlying26 hf
  match cs, hsz with
  | ⟨[k0, k1, k2, k3, k4, k5, k6]⟩, _ =>
    simp only [cells1, cells3, cells6, Value.cells, List.drop, List.take] at h0 h1 h2 h3
    obtain ⟨d4, rfl, w4⟩ := open_num Tryz.underlying3 h1
    obtain ⟨d5, hd5, _⟩ := DataW.trod_bool Tryz.underlying4 h2
    simp only [List.cons.injEq, and_true] at hd5
    subst hd5
    obtain ⟨d6, rfl, w6⟩ := open_num Tryz.underlying3 h3
    obtain ⟨a0, a1, A2, c2, l2, A3, c3, l3, F⟩ := open_fig h0
    have := F.cells
    simp only [List.cons.injEq, and_true] at this
    obtain ⟨rfl, rfl, rfl, rfl⟩ := this
    exact ⟨a0, a1, A2, c2, l2, A3, c3, l3, d4, d5, d6, rfl, w4, w6, F⟩

theorem puzzle_same (w h : Int) (l2 l3 : List Int) (d4 : Int) (d5 : Bool) (d6 : Int) (h2 : l2.length ≤ 1000000) (h3 : l3.length ≤ 1000000) (k : Nat) (hk : l2.length + l3.length + 5 ≤ k) : ∃ b, spec_pzGood.f k w h l2 l3 d4 d5 d6 = some b ∧ impl_IsPuzzle.f k w h l2 l3 d4 d5 d6 = some b ∧ (b = true → FigOK w h l2 l3 ∧ w * h ≤ 9 ∧ 0 ≤ d4) := by
  obtain ⟨b, q, r, i⟩ := right_same w h l2 l3 d4 d5 (by omega) (by omega) k hk
  unfold impl_IsPuzzle.f spec_pzGood.f impl_Puzzle_way.f spec_fiCount.f spec_moSquares.f impl_isNumber.f
  simp only [bnd, q, r, impl_within_f, spec_l1In_f]
  cases b with
  | false =>
    simp only [Bool.false_eq_true, if_false]
    exact ⟨false, rfl, rfl, fun h => by cases h⟩
  | true =>
    have F := (i.1 rfl).1.1
    have c := count_f F
    have s := set_f F (by omega) (by omega) k (by omega)
    generalize ((maskN w h l2 l3 : Nat) : Int) = M at *
    simp only [s, c, bnd, if_true]
    have e : wrap64 ((l2.length : Int) + (l3.length : Int)) = ((l2.length + l3.length : Nat) : Int) := by rw [w64 _ (by omega) (by omega)]; omega
    rw [e]
    by_cases hd : d4 ≤ ((l2.length + l3.length : Nat) : Int)
    · simp only [if_pos hd]; exact ⟨_, rfl, rfl, fun _ => ⟨(i.1 rfl).1.1, (i.1 rfl).1.2, (i.1 rfl).2.1⟩⟩
    · simp only [if_neg hd]; exact ⟨_, rfl, rfl, fun _ => ⟨(i.1 rfl).1.1, (i.1 rfl).1.2, (i.1 rfl).2.1⟩⟩

theorem puzzle_more (w h : Int) (l2 l3 : List Int) (d4 : Int) (d5 : Bool) (d6 : Int) (h2 : l2.length ≤ 1000000) (h3 : l3.length ≤ 1000000) (k : Nat) (hk : l2.length + l3.length + 5 ≤ k) : ∃ b, spec_pzGood.f k w h l2 l3 d4 d5 d6 = some b ∧ impl_IsPuzzle.f k w h l2 l3 d4 d5 d6 = some b ∧ (b = true → FigOK w h l2 l3 ∧ w * h ≤ 9 ∧ 0 ≤ d4 ∧ d4 ≤ if d5 = true then 2 else 4) := by
  obtain ⟨b, q, r, i⟩ := puzzle_same w h l2 l3 d4 d5 d6 h2 h3 k hk
  refine ⟨b, q, r, fun e => ?_⟩
  obtain ⟨F, h9, h0⟩ := i e
  refine ⟨F, h9, h0, ?_⟩
  subst e
  obtain ⟨b', q', r', i'⟩ := right_same w h l2 l3 d4 d5 (by omega) (by omega) k hk
  unfold spec_pzGood.f at q
  rw [r', bnd] at q
  cases b' with
  | true => exact (i'.1 rfl).2.2
  | false =>
    rw [if_neg (by simp)] at q
    cases q
/-- the figure of a set -/
def figQ (w h m : Nat) : Int × Int × List Int × List Int := ((w : Int), (h : Int), segFrom 0 m 0 (w * (h + 1)), segFrom (w * (h + 1)) m 0 (h * (w + 1)))
section
variable {w h : Nat} (w1 : 1 ≤ w) (w4 : w ≤ 4) (h1 : 1 ≤ h) (h4 : h ≤ 4)
include w1 w4 h1 h4
theorem figs_f (k : Nat) (hk : 65 ≤ k) : ∀ (L : List Nat), (∀ m ∈ L, m < 2 ^ ed w h) → figsF k w h (L.map cz) = some (L.map (figQ w h))
  | [], _ => rfl
  | m :: L, hL => by
    obtain ⟨b1, b2, _, _, b3, _⟩ := nums_nat w1 w4 h1 h4
    have hm := hL m List.mem_cons_self
    have hp : 2 ^ ed w h < 4611686018427387904 := pow62 (by unfold ed; omega)
    have e := fig_f w h (w * (h + 1)) (h * (w + 1)) b3 b1 b2 m (Nat.lt_trans hm hp) hm k hk
    rw [List.map_cons, figsF, show impl_grid_figure.f k w h (cz m) = _ from e, bnd, figs_f k hk L (fun x hx => hL x (List.mem_cons_of_mem _ hx)), bnd]
    rfl
theorem figQ_text (k : Nat) (hk : 65 ≤ k) (m : Nat) : ∃ t, impl_figureText.f k (figQ w h m).1 (figQ w h m).2.1 (figQ w h m).2.2.1 (figQ w h m).2.2.2 = some t := by
  obtain ⟨b1, b2, _⟩ := nums_nat w1 w4 h1 h4
  have S2 := segFrom_length 0 m 0 (w * (h + 1))
  have S3 := segFrom_length (w * (h + 1)) m 0 (h * (w + 1))
  have s := set_f (seg_fig w1 w4 h1 h4 m) (by omega) (by omega) k (by omega)
  unfold figQ impl_figureText.f
  simp only
  rw [if_pos (by omega), s, bnd]
  exact ⟨_, rfl⟩
theorem figs_T (k : Nat) (hk : 65 ≤ k) (L : List Nat) : fgT k (L.map (figQ w h)) := by
  intro x hx y hy
  obtain ⟨m, _, rfl⟩ := List.mem_map.1 hx
  obtain ⟨n, _, rfl⟩ := List.mem_map.1 hy
  obtain ⟨t, ht⟩ := figQ_text w1 w4 h1 h4 k hk m
  obtain ⟨u, hu⟩ := figQ_text w1 w4 h1 h4 k hk n
  unfold impl_compareFigures.f strings_Compare.f
  rw [ht, bnd, hu, bnd, bnd]
  exact ⟨_, rfl⟩
end
/-! The reference's matches that are asked for and laid. -/
theorem edge_up {w h : Nat} (w1 : 1 ≤ w) (w4 : w ≤ 4) (h1 : 1 ≤ h) (h4 : h ≤ 4) (l2 l3 : List Int) {x y : Nat} (hx : x ≤ w) (hy : y < h) : spec_fiEdge.f w h l2 l3 true x y = some (((y * (w + 1) + x : Nat) : Int), true) := by
  have hb : y * (w + 1) ≤ 15 := Nat.mul_le_mul (show y ≤ 3 by omega) (show w + 1 ≤ 5 by omega)
  unfold spec_fiEdge.f
  rw [if_pos rfl]
  have e1 : wrap64 ((w : Int) + 1) = ((w + 1 : Nat) : Int) := by rw [w64 _ (by omega) (by omega)]; omega
  rw [e1]
  clear e1
  have e2 : wrap64 ((h : Int) - 1) = ((h - 1 : Nat) : Int) := by rw [w64 _ (by omega) (by omega)]; omega
  rw [e2]
  clear e2
  have e3 : (y : Int) * ((w + 1 : Nat) : Int) = ((y * (w + 1) : Nat) : Int) := by push_cast; rfl
  rw [e3, w64 ((y * (w + 1) : Nat) : Int) (by omega) (by omega), w64 _ (by omega) (by omega), spec_l1In_f, spec_l1In_f, Option.bind_some, if_pos (by simp; omega), Option.bind_some]
  congr 2
  simp
  omega
theorem edge_lv {w h : Nat} (w1 : 1 ≤ w) (w4 : w ≤ 4) (h1 : 1 ≤ h) (h4 : h ≤ 4) (l2 l3 : List Int) {x y : Nat} (hx : x < w) (hy : y ≤ h) : spec_fiEdge.f w h l2 l3 false x y = some (((y * w + x : Nat) : Int), true) := by
  have hb : y * w ≤ 16 := Nat.mul_le_mul (show y ≤ 4 by omega) w4
  unfold spec_fiEdge.f
  rw [if_neg (by simp)]
  have e2 : wrap64 ((w : Int) - 1) = ((w - 1 : Nat) : Int) := by rw [w64 _ (by omega) (by omega)]; omega
  rw [e2]
  clear e2
  have e3 : (y : Int) * (w : Int) = ((y * w : Nat) : Int) := by push_cast; rfl
  rw [e3, w64 ((y * w : Nat) : Int) (by omega) (by omega), w64 _ (by omega) (by omega), spec_l1In_f, spec_l1In_f, Option.bind_some, if_pos (by simp; omega), Option.bind_some]
  congr 2
  simp
  omega
section
variable {w h : Nat} (w1 : 1 ≤ w) (w4 : w ≤ 4) (h1 : 1 ≤ h) (h4 : h ≤ 4) {l2 l3 : List Int} (F : FigOK (w : Int) (h : Int) l2 l3)
include w1 w4 h1 h4 F
theorem has_up (k : Nat) (hk : 31 ≤ k) {x y : Nat} (hx : x ≤ w) (hy : y < h) : spec_fiHas.f k w h l2 l3 true x y = some ((maskN w h l2 l3).testBit (w * (h + 1) + (y * (w + 1) + x))) := by
  obtain ⟨_, _, hs2, hs3⟩ := F.small
  unfold spec_fiHas.f
  rw [edge_up w1 w4 h1 h4 _ _ hx hy, Option.bind_some, if_pos rfl, has_f _ _ (by omega) k (by omega), Option.bind_some]
  congr 1
  rw [Bool.eq_iff_iff, mask_high F]
  simp only [decide_eq_true_eq]
theorem has_lv (k : Nat) (hk : 31 ≤ k) {x y : Nat} (hx : x < w) (hy : y ≤ h) : spec_fiHas.f k w h l2 l3 false x y = some ((maskN w h l2 l3).testBit (y * w + x)) := by
  obtain ⟨_, _, hs2, hs3⟩ := F.small
  have hlt : y * w + x < w * (h + 1) := by
    have : y * w ≤ h * w := Nat.mul_le_mul_right _ hy
    rw [Nat.mul_comm h w] at this
    rw [Nat.mul_add, Nat.mul_one]; omega
  unfold spec_fiHas.f
  rw [edge_lv w1 w4 h1 h4 _ _ hx hy, Option.bind_some, if_neg (by simp), has_f _ _ (by omega) k (by omega), Option.bind_some]
  congr 1
  rw [Bool.eq_iff_iff, mask_low F _ hlt]
  simp only [decide_eq_true_eq]
end

/-! A figure's text. -/
def B8 (l : List UInt8) : ByteArray := ⟨l.toArray⟩
theorem B8_app (a b : List UInt8) : B8 a ++ B8 b = B8 (a ++ b) := by
  apply ByteArray.ext
  simp [B8, ByteArray.data_append]
theorem B8_size (l : List UInt8) : (B8 l).size = l.length := by simp [B8, ByteArray.size]
def sg (b : Bool) (c : UInt8) : UInt8 := if b = true then c else 46
def tx (p : Nat → Bool) (c : UInt8) : Nat → Nat → List UInt8
  | _, 0 => []
  | i, d + 1 => sg (p i) c :: tx p c (i + 1) d
theorem tx_len (p : Nat → Bool) (c : UInt8) : ∀ d i, (tx p c i d).length = d
  | 0, _ => rfl
  | d + 1, i => by simp [tx, tx_len p c d]
theorem wa1 {a : Nat} (h : a ≤ 1000) : wrap64 ((a : Int) + 1) = ((a + 1 : Nat) : Int) := by rw [w64 _ (by omega) (by omega)]; omega
section
variable {w h : Nat} (w1 : 1 ≤ w) (w4 : w ≤ 4) (h1 : 1 ≤ h) (h4 : h ≤ 4) {l2 l3 : List Int} (F : FigOK (w : Int) (h : Int) l2 l3)
include w1 w4 h1 h4 F
def lvB (w h : Nat) (l2 l3 : List Int) (y x : Nat) : Bool := (maskN w h l2 l3).testBit (y * w + x)
def upB (w h : Nat) (l2 l3 : List Int) (y x : Nat) : Bool := (maskN w h l2 l3).testBit (w * (h + 1) + (y * (w + 1) + x))
theorem txt_l1 {y : Nat} (hy : y ≤ h) : ∀ (d x K : Nat) (L : List UInt8), x + d = w → 31 ≤ K → L.length + d ≤ 1000 →
    spec_fiText.l1 (K + d + 1) (B8 L) y x w h l2 l3 = if y = h then some (B8 (L ++ tx (lvB w h l2 l3 y) 45 x d)) else spec_fiText.l2 K (B8 (L ++ tx (lvB w h l2 l3 y) 45 x d ++ [47])) y 0 w h l2 l3
  | 0, x, K, L, hx, hK, hL => by
    simp only [spec_fiText.l1, tx, List.append_nil]
    rw [if_neg (by omega)]
    by_cases e : y = h
    · rw [if_pos (by omega), if_pos e]
    · rw [if_neg (by omega), if_neg e, if_pos (by rw [B8_size]; omega)]
      rw [show (⟨#[47]⟩ : ByteArray) = B8 [47] from rfl, B8_app]
  | d + 1, x, K, L, hx, hK, hL => by
    have hsz : (B8 L).size + 1 ≤ 9223372036854775807 := by rw [B8_size]; omega
    have hm0 : 31 ≤ K + d + 1 := by omega
    rw [show K + (d + 1) + 1 = (K + d + 1) + 1 by omega]
    generalize hm : K + d + 1 = m at hm0 ⊢
    simp only [spec_fiText.l1]
    rw [if_pos (by omega), has_lv w1 w4 h1 h4 F m hm0 (by omega) hy, Option.bind_some, wa1 (by omega)]
    have ih := fun c => txt_l1 hy d (x + 1) K (L ++ [c]) (by omega) hK (by simp; omega)
    rw [hm] at ih
    cases hb : (maskN w h l2 l3).testBit (y * w + x) with
    | true =>
      rw [if_pos rfl, if_pos hsz, show (⟨#[45]⟩ : ByteArray) = B8 [45] from rfl, B8_app, ih]
      simp only [tx, lvB, hb, sg, if_true, List.append_assoc, List.singleton_append, List.cons_append, List.nil_append]
    | false =>
      rw [if_neg (by decide), if_pos hsz, show (⟨#[46]⟩ : ByteArray) = B8 [46] from rfl, B8_app, ih]
      simp only [tx, lvB, hb, sg, Bool.false_eq_true, if_false, List.append_assoc, List.singleton_append, List.cons_append, List.nil_append]
theorem txt_l2 {y : Nat} (hy : y < h) : ∀ (d x K : Nat) (L : List UInt8), x + d = w + 1 → 31 ≤ K → L.length + d ≤ 1000 →
    spec_fiText.l2 (K + d + 1) (B8 L) y x w h l2 l3 = spec_fiText.l0 K (B8 (L ++ tx (upB w h l2 l3 y) 124 x d)) ((y + 1 : Nat) : Int) w h l2 l3
  | 0, x, K, L, hx, hK, hL => by
    simp only [spec_fiText.l2, tx, List.append_nil]
    rw [if_neg (by omega), wa1 (by omega)]
  | d + 1, x, K, L, hx, hK, hL => by
    have hsz : (B8 L).size + 1 ≤ 9223372036854775807 := by rw [B8_size]; omega
    have hm0 : 31 ≤ K + d + 1 := by omega
    rw [show K + (d + 1) + 1 = (K + d + 1) + 1 by omega]
    generalize hm : K + d + 1 = m at hm0 ⊢
    simp only [spec_fiText.l2]
    rw [if_pos (by omega), has_up w1 w4 h1 h4 F m hm0 (by omega) hy, Option.bind_some, wa1 (by omega)]
    have ih := fun c => txt_l2 hy d (x + 1) K (L ++ [c]) (by omega) hK (by simp; omega)
    rw [hm] at ih
    cases hb : (maskN w h l2 l3).testBit (w * (h + 1) + (y * (w + 1) + x)) with
    | true =>
      rw [if_pos rfl, if_pos hsz, show (⟨#[124]⟩ : ByteArray) = B8 [124] from rfl, B8_app, ih]
      simp only [tx, upB, hb, sg, if_true, List.append_assoc, List.singleton_append, List.cons_append, List.nil_append]
    | false =>
      rw [if_neg (by decide), if_pos hsz, show (⟨#[46]⟩ : ByteArray) = B8 [46] from rfl, B8_app, ih]
      simp only [tx, upB, hb, sg, Bool.false_eq_true, if_false, List.append_assoc, List.singleton_append, List.cons_append, List.nil_append]
def body (w h : Nat) (l2 l3 : List Int) : Nat → Nat → List UInt8
  | _, 0 => []
  | y, d + 1 => (if y > 0 then [47] else []) ++ tx (lvB w h l2 l3 y) 45 0 w ++ (if y = h then [] else 47 :: tx (upB w h l2 l3 y) 124 0 (w + 1)) ++ body w h l2 l3 (y + 1) d
theorem txt_l0 : ∀ (d y k : Nat) (L : List UInt8), y + d = h + 1 → 33 + 20 * d ≤ k → L.length + 12 * d ≤ 900 → spec_fiText.l0 k (B8 L) y w h l2 l3 = some (B8 (L ++ body w h l2 l3 y d))
  | 0, y, k, L, hy, hk, hL => by
    obtain ⟨k, rfl⟩ : ∃ m, k = m + 1 := ⟨k - 1, by omega⟩
    simp only [spec_fiText.l0, body, List.append_nil]
    rw [if_neg (by omega)]
  | d + 1, y, k, L, hy, hk, hL => by
    obtain ⟨k, rfl⟩ : ∃ m, k = m + 2 := ⟨k - 2, by omega⟩
    have hj : ∀ L' : List UInt8, L'.length + 1 + 12 * d + 11 ≤ 901 → spec_fiText.j1 (k + 1) (B8 L') y w h l2 l3 = some (B8 (L' ++ (tx (lvB w h l2 l3 y) 45 0 w ++ (if y = h then [] else 47 :: tx (upB w h l2 l3 y) 124 0 (w + 1)) ++ body w h l2 l3 (y + 1) d))) := by
      intro L' hL'
      obtain ⟨K, rfl⟩ : ∃ K, k = K + w + 1 := ⟨k - w - 1, by omega⟩
      simp only [spec_fiText.j1]
      have h1' := txt_l1 w1 w4 h1 h4 F (y := y) (by omega) w 0 K L' (by omega) (by omega) (by omega)
      rw [show ((0 : Nat) : Int) = 0 from rfl] at h1'
      rw [h1']
      by_cases e : y = h
      · have : d = 0 := by omega
        subst this
        rw [if_pos e, if_pos e]
        simp [body]
      · rw [if_neg e, if_neg e]
        obtain ⟨K2, rfl⟩ : ∃ K2, K = K2 + (w + 1) + 1 := ⟨K - (w + 1) - 1, by omega⟩
        have h2' := txt_l2 w1 w4 h1 h4 F (y := y) (by omega) (w + 1) 0 K2 (L' ++ tx (lvB w h l2 l3 y) 45 0 w ++ [47]) (by omega) (by omega) (by simp [tx_len]; omega)
        rw [show ((0 : Nat) : Int) = 0 from rfl] at h2'
        rw [h2', txt_l0 d (y + 1) K2 _ (by omega) (by omega) (by simp [tx_len]; omega)]
        simp
    rw [show k + 2 = (k + 1) + 1 by omega]
    simp only [spec_fiText.l0]
    rw [if_pos (by omega)]
    by_cases e0 : y > 0
    · rw [if_pos (by omega), if_pos (by rw [B8_size]; omega), show (⟨#[47]⟩ : ByteArray) = B8 [47] from rfl, B8_app, hj _ (by simp; omega)]
      simp [body, e0]
    · rw [if_neg (by omega), hj _ (by omega)]
      simp [body, e0]
theorem fiText_f (k : Nat) (hk : 200 ≤ k) : spec_fiText.f k w h l2 l3 = some (B8 (body w h l2 l3 0 (h + 1))) := by
  have := txt_l0 w1 w4 h1 h4 F (h + 1) 0 k [] (by omega) (by omega) (by simp; omega)
  unfold spec_fiText.f
  rw [show ((0 : Nat) : Int) = 0 from rfl] at this
  rw [show (⟨#[]⟩ : ByteArray) = B8 [] from rfl, this, List.nil_append]
end

/-! The program's text of a figure is the reference's. -/
theorem and_zero {m j : Nat} : (m &&& 2 ^ j = 0) ↔ m.testBit j = false := by
  constructor
  · intro h
    have := congrArg (fun n => n.testBit j) h
    simpa [Nat.testBit_and, Nat.testBit_two_pow_self] using this
  · intro h
    apply Nat.eq_of_testBit_eq
    intro i
    rw [Nat.testBit_and, Nat.zero_testBit, Nat.testBit_two_pow]
    by_cases e : j = i
    · subst e; simp [h]
    · simp [e]
theorem ftB_test {m j : Nat} (hm : m < 18446744073709551616) (hj : j < 64) : ftB (m : Int) (shl .u64 1 (j : Int)) = m.testBit j := by
  unfold ftB
  rw [shl_one _ (by omega) (by omega), Int.toNat_natCast, u64_and_nat m (2 ^ j) hm (pow64 hj)]
  cases h : m.testBit j with
  | true =>
    have : m &&& 2 ^ j ≠ 0 := fun e => by rw [and_zero.1 e] at h; cases h
    simp only [bne_iff_ne, ne_eq]
    omega
  | false =>
    rw [and_zero.2 h]
    rfl
theorem tx_snoc (p : Nat → Bool) (c : UInt8) : ∀ (d i : Nat), tx p c i (d + 1) = tx p c i d ++ [sg (p (i + d)) c]
  | 0, i => by simp [tx]
  | d + 1, i => by
    rw [tx, tx_snoc p c d (i + 1), tx]
    simp only [List.cons_append]
    rw [show i + 1 + d = i + (d + 1) by omega]
theorem line_tx (s c : Int) (c' : UInt8) (hc : UInt8.ofNat c.toNat = c') (ed : Int → Int) (p : Nat → Bool) : ∀ n : Nat, (∀ i : Nat, i < n → ftB s (ed (i : Int)) = p i) → (ftLine s c ed n).map (fun q : Int => UInt8.ofNat q.toNat) = tx p c' 0 n
  | 0, _ => rfl
  | n + 1, h => by
    rw [ftLine, List.map_append, line_tx s c c' hc ed p n (fun i hi => h i (by omega)), tx_snoc, Nat.zero_add]
    congr 1
    simp only [List.map_cons, List.map_nil, ftSign, h n (by omega)]
    cases p n
    · rfl
    · simp [sg, hc]
def rowsF (w h : Nat) (l2 l3 : List Int) : Nat → Nat → List (List UInt8)
  | _, 0 => []
  | y, d + 1 => tx (lvB w h l2 l3 y) 45 0 w :: ((if y < h then [tx (upB w h l2 l3 y) 124 0 (w + 1)] else []) ++ rowsF w h l2 l3 (y + 1) d)
section
variable {w h : Nat} {l2 l3 : List Int}
theorem rowsF_snoc : ∀ (d y : Nat), rowsF w h l2 l3 y (d + 1) = rowsF w h l2 l3 y d ++ (tx (lvB w h l2 l3 (y + d)) 45 0 w :: (if y + d < h then [tx (upB w h l2 l3 (y + d)) 124 0 (w + 1)] else []))
  | 0, y => by simp [rowsF]
  | d + 1, y => by
    rw [rowsF, rowsF_snoc d (y + 1), rowsF, show y + 1 + d = y + (d + 1) by omega]
    simp only [List.cons_append, List.append_assoc]
theorem tail_body : ∀ (d y : Nat), y + d = h + 1 → 0 < y → Lib.joinTail [47] (rowsF w h l2 l3 y d) = body w h l2 l3 y d
  | 0, y, _, _ => rfl
  | d + 1, y, hy, h0 => by
    have ih := tail_body d (y + 1) (by omega) (by omega)
    unfold Lib.joinTail at ih ⊢
    rw [rowsF, List.map_cons, List.flatten_cons, List.map_append, List.flatten_append, ih, body, if_pos h0]
    by_cases e : y < h
    · rw [if_pos e, if_neg (by omega)]; simp
    · rw [if_neg e, if_pos (by omega)]; simp
theorem join_body : Lib.join (rowsF w h l2 l3 0 (h + 1)) [47] = body w h l2 l3 0 (h + 1) := by
  have ih := tail_body (w := w) (h := h) (l2 := l2) (l3 := l3) h 1 (by omega) (by omega)
  rw [rowsF, Lib.join_cons, body]
  unfold Lib.joinTail at ih ⊢
  rw [List.map_append, List.flatten_append, ih]
  by_cases e : 0 < h
  · have e2 : ¬ 0 = h := by omega
    simp [e, e2]
  · have e2 : h = 0 := by omega
    subst e2
    simp
end
section
variable {w h : Nat} (w1 : 1 ≤ w) (w4 : w ≤ 4) (h1 : 1 ≤ h) (h4 : h ≤ 4) {l2 l3 : List Int} (F : FigOK (w : Int) (h : Int) l2 l3)
include w1 w4 h1 h4 F
theorem row_lev {y : Nat} (hy : y ≤ h) : (strOfNums (ftLine ((maskN w h l2 l3 : Nat) : Int) 45 (ftLev w y) w)).data.toList = tx (lvB w h l2 l3 y) 45 0 w := by
  have hm := mask_62 w1 w4 h1 h4 F
  have hb : y * w ≤ 16 := Nat.mul_le_mul (show y ≤ 4 by omega) w4
  simp only [strOfNums]
  refine line_tx _ _ _ rfl _ _ w (fun i hi => ?_)
  unfold ftLev lvB
  rw [ft_lev_eq w4 (by omega) (by omega)]
  exact ftB_test (by omega) (by omega)
theorem row_up {y : Nat} (hy : y < h) : (strOfNums (ftLine ((maskN w h l2 l3 : Nat) : Int) 124 (ftUp w h y) (w + 1))).data.toList = tx (upB w h l2 l3 y) 124 0 (w + 1) := by
  have hm := mask_62 w1 w4 h1 h4 F
  have hb : y * (w + 1) ≤ 15 := Nat.mul_le_mul (show y ≤ 3 by omega) (show w + 1 ≤ 5 by omega)
  have hb2 : w * (h + 1) ≤ 20 := Nat.mul_le_mul w4 (show h + 1 ≤ 5 by omega)
  simp only [strOfNums]
  refine line_tx _ _ _ rfl _ _ (w + 1) (fun i hi => ?_)
  unfold ftUp upB
  rw [ft_up_eq w4 h4 (by omega) (by omega), ← Nat.add_assoc]
  exact ftB_test (by omega) (by omega)
theorem rows_eq : ∀ y : Nat, y ≤ h + 1 → (ftRows w h ((maskN w h l2 l3 : Nat) : Int) y).map (·.data.toList) = rowsF w h l2 l3 0 y
  | 0, _ => rfl
  | y + 1, hy => by
    rw [ftRows, List.map_append, rows_eq y (by omega), rowsF_snoc, Nat.zero_add, List.map_cons, row_lev w1 w4 h1 h4 F (by omega)]
    by_cases e : y < h
    · rw [if_pos e, if_pos e, List.map_cons, List.map_nil, row_up w1 w4 h1 h4 F e]
    · rw [if_neg e, if_neg e, List.map_nil]
theorem figureText_f (k : Nat) (hk : 100 ≤ k) : impl_figureText.f k w h l2 l3 = some (B8 (body w h l2 l3 0 (h + 1))) := by
  obtain ⟨_, _, hs2, hs3⟩ := F.small
  unfold impl_figureText.f
  rw [if_pos (by omega), set_f F (by omega) (by omega) k (by omega), Option.bind_some, Int.toNat_natCast, Int.toNat_natCast]
  unfold ftJoin
  rw [rows_eq w1 w4 h1 h4 F _ (Nat.le_refl _), join_body]
  rfl
end

/-! Figures put one by one where their texts belong: the sorted list. -/
theorem bl_lt (a b : ByteArray) : Op.bytesLess a.toList b.toList = decide (a.data.toList < b.data.toList) := by
  rw [Go.Proofs.bytesLess_eq, Lib.toList_data, Lib.toList_data]
theorem rdOf_at (ts : List ByteArray) (i : Nat) (h : i < ts.length) : rdOf ByteArray.empty ts (i : Int) = ts[i] := by
  unfold rdOf
  rw [Int.toNat_natCast, List.getD_eq_getElem?_getD, List.getElem?_eq_getElem h]
  rfl
/-- texts in their order -/
def TxS (ts : List ByteArray) : Prop := ∀ i j (hi : i < ts.length) (hj : j < ts.length), i < j → ¬ ts[j].data.toList < ts[i].data.toList
theorem moLow_spec (ts : List ByteArray) (t : ByteArray) (hs : TxS ts) : ∀ (n low high : Nat), low ≤ high → high ≤ ts.length → high - low ≤ n →
    (∀ j (hj : j < ts.length), j < low → ts[j].data.toList < t.data.toList) → (∀ j (hj : j < ts.length), high ≤ j → ¬ ts[j].data.toList < t.data.toList) →
    moLow ts t n low high ≤ ts.length ∧ (∀ j (hj : j < ts.length), j < moLow ts t n low high → ts[j].data.toList < t.data.toList) ∧ (∀ j (hj : j < ts.length), moLow ts t n low high ≤ j → ¬ ts[j].data.toList < t.data.toList) := by
  intro n
  induction n with
  | zero =>
    intro low high h1 h2 h3 ha hb
    rw [moLow]
    obtain rfl : low = high := by omega
    exact ⟨h2, ha, hb⟩
  | succ n ih =>
    intro low high h1 h2 h3 ha hb
    rw [moLow]
    by_cases hl : low < high
    · have hm : (low + high) / 2 < ts.length := by omega
      rw [if_pos hl, rdOf_at ts _ hm, bl_lt]
      by_cases hc : ts[(low + high) / 2].data.toList < t.data.toList
      · rw [if_pos (decide_eq_true hc)]
        refine ih _ _ (by omega) h2 (by omega) (fun j hj hlt => ?_) hb
        by_cases e : j = (low + high) / 2
        · subst e; exact hc
        · have := List.not_lt.1 (hs j _ hj hm (by omega))
          exact List.lt_of_le_of_lt this hc
      · rw [if_neg (by simpa using hc)]
        refine ih _ _ (by omega) (by omega) (by omega) ha (fun j hj hle => ?_)
        by_cases e : j = (low + high) / 2
        · subst e; exact hc
        · intro hlt
          have := List.not_lt.1 (hs _ j hm hj (by omega))
          exact hc (List.lt_of_le_of_lt this hlt)
    · rw [if_neg hl]
      obtain rfl : low = high := by omega
      exact ⟨h2, ha, hb⟩
theorem moPut_len {α : Type} (l : List α) (i : Nat) (x : α) (h : i ≤ l.length) : (moPut l i x).length = l.length + 1 := by
  unfold moPut
  rw [List.length_append, List.length_cons, List.length_take, List.length_drop]
  omega
theorem moPut_at {α : Type} (l : List α) (i : Nat) (x : α) (h : i ≤ l.length) (j : Nat) : (moPut l i x)[j]? = if j < i then l[j]? else if j = i then some x else l[j - 1]? := by
  unfold moPut
  have hl : (l.take i).length = i := by rw [List.length_take]; omega
  by_cases h1 : j < i
  · rw [if_pos h1, List.getElem?_append_left (by omega), List.getElem?_take_of_lt h1]
  · rw [if_neg h1, List.getElem?_append_right (by omega), hl]
    by_cases h2 : j = i
    · subst h2; simp
    · rw [if_neg h2]
      obtain ⟨d, hd⟩ : ∃ d, j - i = d + 1 := ⟨j - i - 1, by omega⟩
      rw [hd, List.getElem?_cons_succ, List.getElem?_drop]
      congr 1
      omega
theorem moPut_perm {α : Type} (l : List α) (i : Nat) (x : α) : (moPut l i x).Perm (x :: l) := by
  unfold moPut
  have := List.perm_middle (a := x) (l₁ := l.take i) (l₂ := l.drop i)
  rwa [List.take_append_drop] at this
theorem moPut_map {α β : Type} (f : α → β) (l : List α) (i : Nat) (x : α) : moPut (l.map f) i (f x) = (moPut l i x).map f := by
  unfold moPut
  rw [List.map_append, List.map_cons, List.map_take, List.map_drop]
theorem moPut_sorted (ts : List ByteArray) (t : ByteArray) (hs : TxS ts) : TxS (moPut ts (moLow ts t ts.length 0 ts.length) t) := by
  obtain ⟨h0, h1, h2⟩ := moLow_spec ts t hs ts.length 0 ts.length (Nat.zero_le _) (Nat.le_refl _) (Nat.le_refl _) (fun j _ h => absurd h (Nat.not_lt_zero _)) (fun j hj h => absurd hj (by omega))
  generalize moLow ts t ts.length 0 ts.length = p at h0 h1 h2
  intro i j hi hj hij
  have ei := moPut_at ts p t h0 i
  have ej := moPut_at ts p t h0 j
  rw [List.getElem?_eq_getElem hi] at ei
  rw [List.getElem?_eq_getElem hj] at ej
  have hlen := moPut_len ts p t h0
  generalize (moPut ts p t)[i] = a at ei
  generalize (moPut ts p t)[j] = b at ej
  rw [hlen] at hi hj
  by_cases a1 : i < p
  · rw [if_pos a1, List.getElem?_eq_getElem (by omega)] at ei
    obtain rfl := Option.some.inj ei
    by_cases b1 : j < p
    · rw [if_pos b1, List.getElem?_eq_getElem (by omega)] at ej
      obtain rfl := Option.some.inj ej
      exact hs i j (by omega) (by omega) hij
    · rw [if_neg b1] at ej
      by_cases b2 : j = p
      · rw [if_pos b2] at ej
        obtain rfl := Option.some.inj ej
        exact fun h => List.lt_irrefl _ (List.lt_trans h (h1 i (by omega) a1))
      · rw [if_neg b2, List.getElem?_eq_getElem (by omega)] at ej
        obtain rfl := Option.some.inj ej
        exact hs i (j - 1) (by omega) (by omega) (by omega)
  · rw [if_neg a1] at ei
    have b1 : ¬ j < p := by omega
    have b2 : ¬ j = p := by omega
    rw [if_neg b1, if_neg b2, List.getElem?_eq_getElem (by omega)] at ej
    obtain rfl := Option.some.inj ej
    by_cases a2 : i = p
    · rw [if_pos a2] at ei
      obtain rfl := Option.some.inj ei
      exact h2 (j - 1) (by omega) (by omega)
    · rw [if_neg a2, List.getElem?_eq_getElem (by omega)] at ei
      obtain rfl := Option.some.inj ei
      exact hs (i - 1) (j - 1) (by omega) (by omega) (by omega)
/-- two lists of the same members, both in the order of texts that tell the members apart, are one -/
theorem sorted_one {T : Nat → ByteArray} : ∀ (A B : List Nat), A.Perm B → (∀ a ∈ A, ∀ b ∈ A, T a = T b → a = b) → A.Pairwise (fun a b => ¬ (T b).data.toList < (T a).data.toList) → B.Pairwise (fun a b => ¬ (T b).data.toList < (T a).data.toList) → A = B
  | [], B, hp, _, _, _ => (List.Perm.eq_nil hp.symm).symm
  | a :: A, B, hp, hi, ha, hb => by
    cases B with
    | nil => exact absurd (List.Perm.eq_nil hp) (by simp)
    | cons b B =>
      have hab : a = b := by
        have m1 : b ∈ a :: A := hp.mem_iff.2 List.mem_cons_self
        have m2 : a ∈ b :: B := hp.mem_iff.1 List.mem_cons_self
        rcases List.mem_cons.1 m1 with e | m1'
        · exact e.symm
        rcases List.mem_cons.1 m2 with e | m2'
        · exact e
        have c1 := (List.pairwise_cons.1 ha).1 b m1'
        have c2 := (List.pairwise_cons.1 hb).1 a m2'
        refine hi a List.mem_cons_self b m1 ?_
        have e : (T a).data.toList = (T b).data.toList := Std.le_antisymm (List.not_lt.1 c1) (List.not_lt.1 c2)
        apply ByteArray.ext
        exact Array.toList_inj.1 e
      subst hab
      rw [sorted_one A B ((List.perm_cons a).1 hp) (fun x hx y hy => hi x (List.mem_cons_of_mem _ hx) y (List.mem_cons_of_mem _ hy)) (List.pairwise_cons.1 ha).2 (List.pairwise_cons.1 hb).2]
theorem TxS.map {T : Nat → ByteArray} {l : List Nat} (h : TxS (l.map T)) : l.Pairwise (fun a b => ¬ (T b).data.toList < (T a).data.toList) := by
  rw [List.pairwise_iff_getElem]
  intro i j hi hj hij
  have := h i j (by simpa using hi) (by simpa using hj) hij
  simpa using this

/-! The texts of the figures of one grid tell their sets apart. -/
theorem tx_inj (c : UInt8) (hc : c ≠ 46) (p q : Nat → Bool) : ∀ (d i : Nat), tx p c i d = tx q c i d → ∀ x, i ≤ x → x < i + d → p x = q x
  | 0, i, _, x, h1, h2 => by omega
  | d + 1, i, h, x, h1, h2 => by
    simp only [tx, List.cons.injEq] at h
    by_cases e : x = i
    · subst e
      have h3 := h.1
      unfold sg at h3
      cases hp : p x <;> cases hq : q x <;> rw [hp, hq] at h3
      · exact absurd h3.symm hc
      · exact absurd h3 hc
    · exact tx_inj c hc p q d (i + 1) h.2 x (by omega) (by omega)
theorem body_inj (w h : Nat) (l2 l3 k2 k3 : List Int) : ∀ (d y : Nat), body w h l2 l3 y d = body w h k2 k3 y d → ∀ z, y ≤ z → z < y + d → (∀ x, x < w → lvB w h l2 l3 z x = lvB w h k2 k3 z x) ∧ (z ≠ h → ∀ x, x < w + 1 → upB w h l2 l3 z x = upB w h k2 k3 z x)
  | 0, y, _, z, h1, h2 => by omega
  | d + 1, y, e, z, h1, h2 => by
    rw [body, body] at e
    obtain ⟨e1, e2⟩ := List.append_inj e (by by_cases q : y = h <;> simp [tx_len, q])
    obtain ⟨e3, e4⟩ := List.append_inj e1 (by simp [tx_len])
    obtain ⟨_, e5⟩ := List.append_inj e3 rfl
    by_cases hz : z = y
    · subst hz
      refine ⟨fun x hx => tx_inj 45 (by decide) _ _ w 0 e5 x (Nat.zero_le _) (by omega), fun hne x hx => ?_⟩
      rw [if_neg hne, if_neg hne, List.cons.injEq] at e4
      exact tx_inj 124 (by decide) _ _ (w + 1) 0 e4.2 x (Nat.zero_le _) (by omega)
    · exact body_inj w h l2 l3 k2 k3 d (y + 1) e2 z (by omega) (by omega)
/-- the text of a set -/
def txQ (w h m : Nat) : ByteArray := B8 (body w h (segFrom 0 m 0 (w * (h + 1))) (segFrom (w * (h + 1)) m 0 (h * (w + 1))) 0 (h + 1))
section
variable {w h : Nat} (w1 : 1 ≤ w) (w4 : w ≤ 4) (h1 : 1 ≤ h) (h4 : h ≤ 4)
include w1 w4 h1 h4
theorem txQ_inj (m n : Nat) (hm : m < 2 ^ ed w h) (hn : n < 2 ^ ed w h) (e : txQ w h m = txQ w h n) : m = n := by
  have e' := congrArg (fun t : ByteArray => t.data.toList) e
  have e2 : body w h (segFrom 0 m 0 (w * (h + 1))) (segFrom (w * (h + 1)) m 0 (h * (w + 1))) 0 (h + 1) = body w h (segFrom 0 n 0 (w * (h + 1))) (segFrom (w * (h + 1)) n 0 (h * (w + 1))) 0 (h + 1) := by
    simpa [txQ, B8] using e'
  have key := body_inj w h _ _ _ _ (h + 1) 0 e2
  unfold lvB upB at key
  rw [seg_mask w1 w4 h1 h4 m hm, seg_mask w1 w4 h1 h4 n hn] at key
  apply Nat.eq_of_testBit_eq
  intro j
  by_cases q : j < w * (h + 1)
  · have hd : j / w < h + 1 := Nat.div_lt_of_lt_mul q
    have := (key (j / w) (Nat.zero_le _) (by omega)).1 (j % w) (Nat.mod_lt _ (by omega))
    rwa [Nat.mul_comm, Nat.div_add_mod] at this
  · obtain ⟨i, rfl⟩ : ∃ i, j = w * (h + 1) + i := ⟨j - w * (h + 1), by omega⟩
    by_cases q2 : i < h * (w + 1)
    · have hd : i / (w + 1) < h := Nat.div_lt_of_lt_mul (by rwa [Nat.mul_comm] at q2)
      have := (key (i / (w + 1)) (Nat.zero_le _) (by omega)).2 (by omega) (i % (w + 1)) (Nat.mod_lt _ (by omega))
      rwa [Nat.mul_comm (i / (w + 1)), Nat.div_add_mod] at this
    · have hp : 2 ^ ed w h ≤ 2 ^ (w * (h + 1) + i) := Nat.pow_le_pow_right (by decide) (by unfold ed; omega)
      rw [Nat.testBit_lt_two_pow (Nat.lt_of_lt_of_le hm hp), Nat.testBit_lt_two_pow (Nat.lt_of_lt_of_le hn hp)]
theorem figQ_txt (k : Nat) (hk : 200 ≤ k) (m : Nat) : spec_fiText.f k (figQ w h m).1 (figQ w h m).2.1 (figQ w h m).2.2.1 (figQ w h m).2.2.2 = some (txQ w h m) := fiText_f w1 w4 h1 h4 (seg_fig w1 w4 h1 h4 m) k hk
theorem figQ_itxt (k : Nat) (hk : 100 ≤ k) (m : Nat) : impl_figureText.f k (figQ w h m).1 (figQ w h m).2.1 (figQ w h m).2.2.1 (figQ w h m).2.2.2 = some (txQ w h m) := figureText_f w1 w4 h1 h4 (seg_fig w1 w4 h1 h4 m) k hk
theorem moIns_f (k : Nat) (hk : 200 ≤ k) : ∀ (L S : List Nat), (∀ m ∈ L, m < 2 ^ ed w h) → TxS (S.map (txQ w h)) → ∃ S' : List Nat, moIns k w h (L.map cz) (S.map (txQ w h)) (S.map (figQ w h)) = some (S'.map (figQ w h)) ∧ S'.Perm (L ++ S) ∧ TxS (S'.map (txQ w h))
  | [], S, _, hS => ⟨S, rfl, List.Perm.refl _, hS⟩
  | m :: L, S, hL, hS => by
    obtain ⟨b1, b2, _, _, b3, b4⟩ := nums_nat w1 w4 h1 h4
    have hm := hL m List.mem_cons_self
    have hp : 2 ^ ed w h < 4611686018427387904 := pow62 (by unfold ed; omega)
    have es := sq_f w h (w * (h + 1)) (h * (w + 1)) b3 b4 b1 b2 m (Nat.lt_trans hm hp) k (by omega)
    have et := figQ_txt w1 w4 h1 h4 k hk m
    have hT := moPut_sorted (S.map (txQ w h)) (txQ w h m) hS
    rw [moPut_map] at hT
    obtain ⟨S', q1, q2, q3⟩ := moIns_f k hk L _ (fun x hx => hL x (List.mem_cons_of_mem _ hx)) hT
    refine ⟨S', ?_, q2.trans ?_, q3⟩
    · rw [List.map_cons, moIns, show spec_sqFigure.f k w h (cz m) = some (figQ w h m) from es, bnd, et, bnd, moPut_map, moPut_map]
      exact q1
    · refine (List.perm_append_left_iff L).2 (moPut_perm S _ m) |>.trans ?_
      exact List.perm_middle
theorem moSorted_f (k : Nat) (hk : 200 ≤ k) (L : List Nat) (hL : ∀ m ∈ L, m < 2 ^ ed w h) (hl : L.length ≤ 1000000) : ∃ S : List Nat, spec_moSorted.f k w h (L.map cz) = some (S.map (figQ w h)) ∧ S.Perm L ∧ TxS (S.map (txQ w h)) := by
  obtain ⟨S, q1, q2, q3⟩ := moIns_f w1 w4 h1 h4 k hk L [] hL (fun i j hi _ _ => absurd hi (by simp))
  refine ⟨S, ?_, by rwa [List.append_nil] at q2, q3⟩
  unfold spec_moSorted.f
  rw [if_pos (by rw [List.length_map]; exact hl)]
  exact q1
end
/-- the sorted list of figures: the same sets, by their texts -/
theorem fgS_sorted {w h : Nat} (w1 : 1 ≤ w) (w4 : w ≤ 4) (h1 : 1 ≤ h) (h4 : h ≤ 4) (k : Nat) (hk : 100 ≤ k) (L : List Nat) (hT : fgT k (L.map (figQ w h))) : ∃ L' : List Nat, fgS k (L.map (figQ w h)) = L'.map (figQ w h) ∧ L'.Perm L ∧ L'.Pairwise (fun a b => ¬ (txQ w h b).data.toList < (txQ w h a).data.toList) := by
  cases L with
  | nil => exact ⟨[], rfl, List.Perm.refl _, List.Pairwise.nil⟩
  | cons x0 r =>
    have hx0 : figQ w h x0 ∈ (x0 :: r).map (figQ w h) := by simp
    have hp := Sort.pdq_sorts (ltOf (fgF k ((x0 :: r).map (figQ w h)) (figQ w h x0))) (fgF_swo k _ _ hx0 hT) (Array.range ((r.map (figQ w h)).length + 1)) 0 ((r.map (figQ w h)).length + 1) (Lib.bitLen ((r.map (figQ w h)).length + 1)) true true (Nat.zero_le _) (by simp) (Or.inl rfl)
    have e0 : fgS k ((x0 :: r).map (figQ w h)) = (Sort.pdq (ltOf (fgF k ((x0 :: r).map (figQ w h)) (figQ w h x0))) (Array.range ((r.map (figQ w h)).length + 1)) 0 ((r.map (figQ w h)).length + 1) (Lib.bitLen ((r.map (figQ w h)).length + 1)) true true).toList.map fun i => ((x0 :: r).map (figQ w h)).getD i (figQ w h x0) := rfl
    generalize Sort.pdq (ltOf (fgF k ((x0 :: r).map (figQ w h)) (figQ w h x0))) (Array.range ((r.map (figQ w h)).length + 1)) 0 ((r.map (figQ w h)).length + 1) (Lib.bitLen ((r.map (figQ w h)).length + 1)) true true = d at hp e0
    have hget : ∀ i, ((x0 :: r).map (figQ w h)).getD i (figQ w h x0) = figQ w h ((x0 :: r).getD i x0) := fun i => by
      rw [List.getD_eq_getElem?_getD, List.getD_eq_getElem?_getD, List.getElem?_map]
      cases (x0 :: r)[i]? <;> rfl
    obtain ⟨⟨hs, _, hq⟩, hso⟩ := hp
    have hs' : d.size = r.length + 1 := by rw [hs]; simp
    refine ⟨d.toList.map fun i => (x0 :: r).getD i x0, ?_, ?_, ?_⟩
    · rw [e0, List.map_map]
      exact List.map_congr_left fun i _ => hget i
    · have e1 : d.extract 0 ((r.map (figQ w h)).length + 1) = d := by
        rw [List.length_map, ← hs']
        exact Array.extract_size
      have e2 : (Array.range ((r.map (figQ w h)).length + 1)).extract 0 ((r.map (figQ w h)).length + 1) = Array.range (r.length + 1) := by
        rw [List.length_map]
        conv => lhs; rw [show r.length + 1 = (Array.range (r.length + 1)).size by simp]
        simp
      rw [e1, e2] at hq
      have e3 : ((Array.range (r.length + 1)).toList.map fun i => (x0 :: r).getD i x0) = x0 :: r := by
        apply List.ext_getElem
        · simp
        · intro i h1 h2
          simp only [List.length_cons] at h2
          rw [List.getElem_map, Array.getElem_toList, Array.getElem_range, List.getD_eq_getElem?_getD, List.getElem?_eq_getElem (by simpa using h2)]
          rfl
      have := hq.map fun i => (x0 :: r).getD i x0
      rwa [e3] at this
    · rw [List.pairwise_iff_getElem]
      intro i j hi hj hij
      rw [List.length_map, Array.length_toList, hs'] at hi hj
      have h := hso i j (Nat.zero_le _) hij (by rw [List.length_map]; exact hj)
      rw [getElem!_pos d i (by omega), getElem!_pos d j (by omega)] at h
      rw [List.getElem_map, List.getElem_map, Array.getElem_toList, Array.getElem_toList]
      generalize d[i] = a at h ⊢
      generalize d[j] = b at h ⊢
      unfold ltOf fgF impl_compareFigures.f strings_Compare.f at h
      simp only [hget, figQ_itxt w1 w4 h1 h4 k hk, Option.bind_some, Option.getD_some] at h
      have h' := of_decide_eq_false h
      rwa [cmpB_lt] at h'

/-- what the two sides know of a puzzle's solutions, in order -/
theorem asked_sols (w h : Int) (l2 l3 : List Int) (d4 : Int) (d5 : Bool) (d6 : Int) (h2 : l2.length ≤ 1000000) (h3 : l3.length ≤ 1000000) (k : Nat) (hk : l2.length + l3.length + 1007000 ≤ k) :
    (solsF k w h l2 l3 d4 d5 d6 = some ([], false) ∧ ∃ ms, spec_pzAsked.f k w h l2 l3 d4 d5 d6 = some (ms, false)) ∨
    ∃ (wn hh : Nat) (L S : List Nat), w = (wn : Int) ∧ h = (hh : Int) ∧ 1 ≤ wn ∧ wn ≤ 4 ∧ 1 ≤ hh ∧ hh ≤ 4 ∧ S.length ≤ 150 ∧ L.length = S.length ∧ (∀ m ∈ S, m < 2 ^ ed wn hh) ∧
      spec_pzAsked.f k w h l2 l3 d4 d5 d6 = some (L.map cz, true) ∧ solsF k w h l2 l3 d4 d5 d6 = some (S.map (figQ wn hh), true) ∧ ∀ k, 200 ≤ k → spec_moSorted.f k w h (L.map cz) = some (S.map (figQ wn hh)) := by
  obtain ⟨b, q, r, i⟩ := puzzle_more w h l2 l3 d4 d5 d6 h2 h3 k (by omega)
  unfold spec_pzAsked.f spec_pzAll.f solsF
  rw [q, r, bnd, bnd]
  cases b with
  | false => exact Or.inl ⟨rfl, [], rfl⟩
  | true =>
    obtain ⟨F, h9, h0, hn⟩ := i rfl
    obtain ⟨wn, hh, rfl, rfl, w1, w4, g1, g4⟩ := F.grid
    obtain ⟨n, rfl⟩ : ∃ n : Nat, d4 = (n : Int) := ⟨d4.toNat, by omega⟩
    have hn4 : n ≤ 4 := by split at hn <;> omega
    have hmv : d5 = true → n ≤ 2 := fun e => by rw [if_pos e] at hn; omega
    have a1 := with_f F h9 n d5 true d6 hn4 hmv k (by omega)
    have a2 := those_f F h9 n d5 true d6 hn4 hmv k (by omega)
    obtain ⟨_, _, _, _, q9, hM⟩ := ways_ed F h9
    have hlt : ∀ m ∈ fdN wn hh d6 d5 true n (maskN wn hh l2 l3), m < 2 ^ ed wn hh := fun m hm => mdN_lt hM m (List.mem_filter.1 hm).1
    generalize fdN wn hh d6 d5 true n (maskN wn hh l2 l3) = L at a1 a2 hlt
    rw [if_pos rfl, if_pos rfl, a1, a2, bnd, bnd, bnd]
    by_cases hb : (L.map cz).length > 150
    · rw [if_pos hb, decide_eq_false (show ¬ ((L.map cz).length : Int) ≤ 150 by omega)]
      exact Or.inl ⟨rfl, _, rfl⟩
    · have hb' : L.length ≤ 150 := by rw [List.length_map] at hb; omega
      have ef := figs_f w1 w4 g1 g4 k (by omega) L hlt
      have eT := figs_T w1 w4 g1 g4 k (by omega) L
      obtain ⟨S, e', hP, hS⟩ := fgS_sorted w1 w4 g1 g4 k (by omega) L eT
      rw [if_neg hb, decide_eq_true (show ((L.map cz).length : Int) ≤ 150 by omega), ef, bnd, if_pos eT, e']
      have hltS : ∀ m ∈ S, m < 2 ^ ed wn hh := fun m hm => hlt m (hP.mem_iff.1 hm)
      refine Or.inr ⟨wn, hh, L, S, rfl, rfl, w1, w4, g1, g4, by rw [hP.length_eq]; exact hb', hP.length_eq.symm, hltS, rfl, rfl, fun k' hk' => ?_⟩
      obtain ⟨S', q1, q2, q3⟩ := moSorted_f w1 w4 g1 g4 k' hk' L hlt (by omega)
      have e2 : S' = S := sorted_one S' S (q2.trans hP.symm) (fun a ha b hb' e => txQ_inj w1 w4 g1 g4 a b (hlt a (q2.mem_iff.1 ha)) (hltS b ((q2.trans hP.symm).mem_iff.1 hb')) e) q3.map hS
      rw [q1, e2]

/-! Rows of figures, written over and looked at again. -/
theorem marksFS (k : Nat) (hk : 100 ≤ k) : ∀ (fs : List (Int × Int × List Int × List Int)) (a : Int), (∀ x ∈ fs, x.2.2.1.length ≤ 30 ∧ x.2.2.2.length ≤ 30) → 0 ≤ a → a + 100 * fs.length ≤ 1000000000 → ∃ ys n, mkFS k fs a = some (n, ys) ∧ hdFS k ys a = some n ∧ 0 ≤ n
  | [], a, _, h0, _ => ⟨[], a, rfl, rfl, h0⟩
  | x :: r, a, hb, h0, h1 => by
    obtain ⟨b2, b3⟩ := hb x List.mem_cons_self
    rw [List.length_cons] at h1
    have w1 : wrap64 (a + 1) = a + 1 := w64 _ (by omega) (by omega)
    have w2 : wrap64 (a + 1 + 1) = a + 1 + 1 := w64 _ (by omega) (by omega)
    obtain ⟨y2, e2, f2⟩ := mark_f x.2.2.1 (a + 1 + 1) k (by omega) (by omega) (by omega) (by omega)
    obtain ⟨y3, e3, f3⟩ := mark_f x.2.2.2 (a + 1 + 1 + x.2.2.1.length) k (by omega) (by omega) (by omega) (by omega)
    obtain ⟨ys, n, q1, q2, q3⟩ := marksFS k hk r (a + 1 + 1 + x.2.2.1.length + x.2.2.2.length) (fun y hy => hb y (List.mem_cons_of_mem _ hy)) (by omega) (by omega)
    refine ⟨(a, a + 1, y2, y3) :: ys, n, ?_, ?_, q3⟩
    · rw [mkFS, w1, w2, e2, bnd]
      simp only
      rw [e3, bnd]
      simp only
      rw [q1, bnd]
    · rw [hdFS]
      simp only
      rw [if_pos trivial, w1, if_pos rfl, w2, f2 k (by omega), bnd, if_pos (by omega), f3 k (by omega), bnd, if_pos (by omega)]
      exact q2
theorem eqsFS (k : Nat) (hk : 100 ≤ k) (fs : List (Int × Int × List Int × List Int)) (hb : ∀ x ∈ fs, x.2.2.1.length ≤ 30 ∧ x.2.2.2.length ≤ 30) : ∀ x ∈ fs, laws_eqFigure.f k x.1 x.2.1 x.2.2.1 x.2.2.2 x.1 x.2.1 x.2.2.1 x.2.2.2 = some true := fun x hx => by
  obtain ⟨b2, b3⟩ := hb x hx
  exact eqs_Figure _ _ _ _ k (by omega) (by omega) (by omega)
theorem Solutions_pure (w h : Int) (l2 l3 : List Int) (d4 : Int) (d5 : Bool) (d6 : Int) (F : FigW w h l2 l3) (_w4 : (Lit.int .i64 d4).wf = true) (_w6 : (Lit.int .i64 d6).wf = true) : ∃ ks ki fs ok, spec_Solutions.f ks w h l2 l3 d4 d5 d6 = some (fs, ok) ∧ solsF ki w h l2 l3 d4 d5 d6 = some (fs, ok) ∧ (∀ x ∈ fs, x.2.2.1.length ≤ 30 ∧ x.2.2.2.length ≤ 30) ∧ fs.length ≤ 150 := by
  refine ⟨l2.length + l3.length + 1007001, l2.length + l3.length + 1007001, ?_⟩
  unfold spec_Solutions.f
  rcases asked_sols w h l2 l3 d4 d5 d6 F.n2 F.n3 (l2.length + l3.length + 1007001) (by omega) with ⟨e1, ms, e2⟩ | ⟨wn, hh, L, S, rfl, rfl, w1, w4, g1, g4, h150, hl, _, e2, e1, e3⟩
  · rw [e1, e2, bnd]
    exact ⟨[], false, rfl, rfl, by simp, by simp⟩
  · rw [e1, e2, bnd]
    simp only
    rw [if_pos trivial, e3 _ (by omega), bnd]
    refine ⟨S.map (figQ wn hh), true, rfl, rfl, fun x hx => ?_, by rw [List.length_map]; exact h150⟩
    obtain ⟨m, _, rfl⟩ := List.mem_map.1 hx
    have b := nums_nat w1 w4 g1 g4
    exact ⟨Nat.le_trans (segFrom_length 0 m 0 (wn * (hh + 1))) (Nat.le_trans b.1 (by decide)), Nat.le_trans (segFrom_length (wn * (hh + 1)) m 0 (hh * (wn + 1))) (Nat.le_trans b.2.1 (by decide))⟩

/-! The table that the row lists, and a start that fits. -/
abbrev LAID : List (String × DataW Unit) := [("math/bits.deBruijn64tab", Rows.laid_math_bits_deBruijn64tab)]
theorem tz_of_laid {W : World} (hL : laidMet Tryz.prog LAID W) : TzTab W := by
  have hg : Tryz.prog.globalNamed "math/bits.deBruijn64tab" = some 0 := by kernel_rfl
  have hT : Lib.TabIs Tryz.prog W "math/bits.deBruijn64tab" .u8 (Lib.deBruijn64tab.map fun n : Nat => (n : Int)) :=
    Lib.tabIs_of_head (rest := []) (n := 64) hg (t := 134) (by kernel_rfl) (e := 5) Tryz.underlying134 Tryz.underlying5 (by kernel_rfl) (by kernel_rfl) hL
  intro j hj
  have h := hT.cell hg j (by simpa using hj)
  rw [h]
  congr 2
  simp [List.getD, hj]
noncomputable def laidWorld (os : Os) : World :=
  { World.holding Tryz.prog os ⟨#[], #[], []⟩ with heap := (World.holding Tryz.prog os ⟨#[], #[], []⟩).heap.modify 0 fun
      | .cells _ t frozen => .cells (Lib.deBruijn64tab.map fun z : Nat => Value.int .u8 (z : Int)).toArray t frozen
      | o => o }
theorem laid_met (os : Os) (args : Array Value) : laidMet Tryz.prog LAID ((laidWorld os).forCall (fun _ _ => 0) ⟨#[], args, []⟩).memory :=
  (LaidIn.of_run [0] 8 (by kernel_rfl) (by kernel_rfl) (by kernel_rfl) (by kernel_rfl)).met
theorem own : ownKnob Tryz.prog.godebug = none := by kernel_rfl
theorem laidOut : laidOutB Tryz.prog = true := by kernel_rfl

theorem Solutions_call {W : World} (hT : TzTab W) {a0 a1 : Int} {A2 : Option Addr} {c2 : Nat} {l2 : List Int} {A3 : Option Addr} {c3 : Nat} {l3 : List Int} (d4 : Int) (d5 : Bool) (d6 : Int) (F0 : FigIn W [.int .i64 a0, .int .i64 a1, .slice A2 l2.length c2, .slice A3 l3.length c3] a0 a1 A2 c2 l2 A3 c3 l3) (wd4 : (Lit.int .i64 d4).wf = true) (wd6 : (Lit.int .i64 d6).wf = true) :
    Calls Tryz.prog 8 #[.agg #[.int .i64 a0, .int .i64 a1, .slice A2 l2.length c2, .slice A3 l3.length c3, .int .i64 d4, .bool d5, .int .i64 d6]] W fun e W' => e = .returned (.bool true) ∧ Below W.heap.size W W' := by
  obtain ⟨z0, hsz0, hi0, hj0⟩ := sz_puzzle a0 a1 l2 l3 d4 d5 d6 1000000 (by omega) (by omega) F0.hm2 F0.hm3
  by_cases hneg0 : 0 ≤ z0
  · have e0 := hi0 hneg0
    obtain ⟨ks, ki, fs, ok, hs, hi, hb, hl⟩ := Solutions_pure a0 a1 l2 l3 d4 d5 d6 (F0.w (by omega) (by omega)) wd4 wd6
    obtain ⟨x2, x3, n0, hmx, _, hn0⟩ := marks_Puzzle a0 a1 l2 l3 d4 d5 d6 (l2.length + l3.length + 100) (by omega) (by omega) (by omega)
    obtain ⟨ys, n, hmg, hhe, hn⟩ := marksFS (l2.length + l3.length + 100) (by omega) fs 101 hb (by omega) (by omega)
    exact law_Solutions ks ki (l2.length + l3.length + 100) fs ok z0 n0 n x2 x3 ys a0 a1 A2 c2 l2 A3 c3 l3 d4 d5 d6 W hT F0.hr2 F0.hr3 F0.hc2 F0.hc3 hsz0 (fun _ => ⟨by omega, by omega⟩) (fun _ => hs) (fun _ => hi) (eqsFS _ (by omega) fs hb) (fun _ => hmx) hn0 hmg hn hhe
  · exact law_Solutions 0 0 100 [] false z0 0 101 [] [] [] a0 a1 A2 c2 l2 A3 c3 l3 d4 d5 d6 W hT F0.hr2 F0.hr3 F0.hc2 F0.hc3 hsz0 (fun h => absurd h hneg0) (fun h => absurd h hneg0) (fun h => absurd h hneg0) (by simp) (fun h => absurd h hneg0) (by omega) rfl (by omega) rfl
set_option maxRecDepth 100000 in
theorem lifted (os : Os) (started : os.Started) (H : Type) (enc : TypeId × Value → H) (F : Stop.Interp) :
    ReturnsInHanded {} Tryz.checked os 8 .any ((OpenSpec.ofChange Rows.fnExactSolutionsSpec).preRow enc Tryz.prog Tryz.f8 Rows.fnExactSolutionsRow.domain false LAID) (((OpenSpec.ofChange Rows.fnExactSolutionsSpec).at F).post enc Tryz.prog Tryz.f8 false true false false) := by
  refine returnsInHanded_of_row (C := Tryz.checked) (s := OpenSpec.ofChange Rows.fnExactSolutionsSpec) own started (by kernel_rfl) Tryz.func8
    (witness_row_at (enc := enc) (C := Tryz.checked) false (laidWorld os) #[.agg #[.int .i64 0, .int .i64 0, .slice none 0 0, .slice none 0 0, .int .i64 0, .bool false, .int .i64 0]] rfl (by kernel_rfl) (by kernel_rfl) (by kernel_rfl)
      (OpenSpec.preRow_of_B rfl 8 (by kernel_rfl) (by kernel_rfl) (laid_met os _))) ?_
  intro W base args ds gs before hval0 hW _ _ hsz0 hL _ _
  have hval : ∀ (j : Nat) t v, Tryz.f8.params[j]? = some t → args[j]? = some v → Value.okWide Tryz.prog W .any base t v := hval0
  have hW' := hW
  obtain ⟨p, q, hA0, hV, rfl, hfz, hnd⟩ := hW
  have hA : DataW.TrodAll enc Tryz.prog W 0 (fun _ => true) true Tryz.f8.params.toList args.toList ds p := hA0
  rw [Tryz.params8] at hA hval
  obtain ⟨v0, vs0, d0, ds0, p0, q0, hargs, rfl, rfl, h0, t0⟩ := trodAll_cons hA
  obtain ⟨rfl, rfl, rfl⟩ := trodAll_nil t0
  obtain rfl : args = #[v0] := by cases args; simp_all
  obtain ⟨rfl, rfl⟩ := trodVars_none hV
  have kk0 := h0
  have lt0 : ∀ x ∈ p0, x.block < W.heap.size := by obtain ⟨m, hm⟩ := kk0; exact DataW.trod_lt m _ _ _ hm
  obtain ⟨a0, a1, A2, c2, l2, A3, c3, l3, d4, d5, d6, rfl, wd4, wd6, F0⟩ := open_puzzle (hval 0 26 v0 rfl rfl) h0
  clear hA0 hval0 hsz0
  refine (Solutions_call (tz_of_laid hL) d4 d5 d6 F0 wd4 wd6).mono fun e W' ⟨he, bel⟩ => ?_
  subst he
  exact ⟨_, rfl, _, _, _, [], _, [], hW', trodAll_mk1 (shut_bool Tryz.underlying4 _), (trodAll_cons_mk (Below.trod laidOut (by kernel_rfl) (of_decide_eq_true (by kernel_rfl)) kk0 bel lt0) trodAll_mk0), rfl, bel.frame _, fun h => by cases h⟩
theorem over : Rows.fnExactSolutionsRow.holds Tryz.pinned (OpenSpec.ofChange Rows.fnExactSolutionsSpec) :=
  OpenClaim.holds_of_wide 8 Tryz.f8 rfl rfl rfl rfl rfl rfl rfl ⟨rfl, rfl, rfl, rfl, rfl⟩ rfl rfl rfl rfl rfl (by kernel_rfl) Tryz.func8 (by kernel_rfl)
    (of_decide_eq_true (by kernel_rfl)) (by unfold Func.isWrapper; first | (rw [if_pos (by decide +kernel)]; kernel_rfl) | (rw [if_neg (by decide +kernel)]; exact ⟨rfl, rfl⟩))
    (fun os started H enc _ => lifted os started H enc (fun _ _ _ => 0))
theorem proved : Rows.FnExactSolutionsCardSaid :=
  Claim7.holds_tied_plain_at .later [] [.data] true (true, "39ef3938e9328ee8eab3d59ddd5fb3c60070efc6c047d39546cbc96d7b751623") false
    over (fun _ h => by cases h) (by kernel_rfl) (fun _ h => by cases h) fnExactSolutions_row_tie rfl ⟨rfl, rfl⟩ (by kernel_rfl) rfl
    (fun f fn hf hfn => by
      obtain rfl : f = 8 := Option.some.inj ((show Tryz.prog.funcNamed "loop.example/g01233/laws.FnExactSolutions" = some 8 by kernel_rfl).symm.trans hf) |>.symm
      obtain rfl : fn = Tryz.f8 := (Option.some.inj (Tryz.func8.symm.trans hfn)).symm
      exact ⟨by kernel_rfl, fun j t ht => by
        rw [Tryz.params8] at ht
        rcases j with _ | j
        · have e : t = 26 := by simpa using ht.symm
          subst e
          exact (show Tryz.prog.wantsStandIn 26 = false by kernel_rfl)
        simp at ht⟩)
    (by kernel_rfl)

end Go.Proofs.YtopifdmaaibcnaaGreatDoor.H
namespace Go.Proofs.YtopifdmaaibcnaaGreatDoor
/-- The row, under a short name, for the claim. -/
theorem fnExactSolutions_holds : Rows.FnExactSolutionsCardSaid := H.proved
#print axioms fnExactSolutions_holds
end Go.Proofs.YtopifdmaaibcnaaGreatDoor
