/- For every puzzle that can be read the law FnExactIsSymmetric returns true and leaves its argument as it was: the program's IsSymmetric tells what the reference's tells. Conditions: none beyond the row's own; the table that it reads is tied to the program's text. -/
import Derived.Test.YtdjecdghfmadoaaDoorRows
import Derived.Test.YtdjecdghfmadoaaDoorSd
import Derived.Test.YtdjecdghfmadoaaDoorSc2
import Derived.Test.YtdjecdghfmadoaaDoorSc7
import Derived.Test.YtdjecdghfmadoaaDoorSc9
import Derived.Test.YtdjecdghfmadoaaDoorSc10
import Derived.Test.YtdjecdghfmadoaaDoorCards
import Derived.Test.YtdjecdghfmadoaaDoorTie
import Derived.WalkKit
import Derived.ProofKit
import Derived.OpenShut
import Derived.ShutString
import Derived.ChangeOld
import Derived.Below
import Derived.SizedLaws
import Derived.Lib.SmallJoins
import Derived.Deep.LoopGhost
import Derived.Deep.Draws
import Derived.Deep.RegionHeld3
import Derived.Lib.LaidIn
import Derived.Lib.LaidTab
import Derived.Deep.DeepHandedRow
import Derived.SevenTiedAt
namespace Go.Proofs.YtdjecdghfmadoaaDoor.S
open Go.ChangeShapes Go.WideShapes Go.ChangeAt Go.RowKit Go.Joins
open Go.ChangeMaps (open_string shut_string)
open Go.Proofs.YtdjecdghfmadoaaDoorW.PrintWords Go.Proofs.YtdjecdghfmadoaaDoorW.PrintLast Go.Proofs.YtdjecdghfmadoaaDoorW.PrintMore
attribute [local go_sem] max2_int min2_int max_two min_two max_three min_three max_four min_four
set_option linter.unusedVariables false
set_option linter.unusedSimpArgs false
set_option linter.unnecessarySimpa false
set_option maxHeartbeats 8000000 in
set_option maxRecDepth 100000 in
theorem topuzzle_full (a0 a1 : Int) (A2 : Option Addr) (c2 : Nat) (l2 : List Int) (A3 : Option Addr) (c3 : Nat) (l3 : List Int) (d4 : Int) (d5 : Bool) (d6 : Int) (w : World)
    (hr2 : Kd.C (Kd.int .i64) w A2 l2.length l2) (hr3 : Kd.C (Kd.int .i64) w A3 l3.length l3) (h2 : l2.length ≤ 1000000) (h3 : l3.length ≤ 1000000) :
    Calls Tryd.prog 19 #[.agg #[.int .i64 a0, .int .i64 a1, .slice A2 l2.length c2, .slice A3 l3.length c3, .int .i64 d4, .bool d5, .int .i64 d6], .bool false] w fun e w' => ∃ v2 v3, e = .returned (.agg #[.int .i64 a0, .int .i64 a1, v2, v3, .int .i64 d4, .bool d5, .int .i64 d6]) ∧ SpareFig w.heap.size w' v2 v3 l2 l3 ∧ Below w.heap.size w w' := by
  have C := fun W hr2 hr3 => tofig_full a0 a1 A2 c2 l2 A3 c3 l3 W hr2 hr3 h2 h3
  have HR2 := Aside0.mk hr2
  have HR3 := Aside0.mk hr3
  have hu := Tryd.underlying38
  have hu2 := Tryd.underlying28
  have hu3 := Tryd.underlying24
  have hu4 := Tryd.underlying26
  clear hr2 hr3
  go_enter Tryd.func19, Tryd.ntmps19
  go_wp2_with fail
  refine (C _ (Kd.C_alloc (Kd.C_alloc (Kd.C_alloc HR2.out _) _) _) (Kd.C_alloc (Kd.C_alloc (Kd.C_alloc HR3.out _) _) _)).mono ?_
  rintro e w1 ⟨v2, v3, rfl, ⟨⟨b2, b3, rfl, rfl, hne, s2, s3⟩⟩, hb⟩
  have hz2 : w.heap.size + 3 ≤ b2 := by have := s2.ge; simp at this; omega
  have hz3 : w.heap.size + 3 ≤ b3 := by have := s3.ge; simp at this; omega
  have B0 : w1.heap[w.heap.size]? = _ := (hb.block _ (by simp; try omega)).trans (heap_at3 _ _ _ _).1
  have B1 : w1.heap[w.heap.size + 1]? = _ := (hb.block _ (by simp; try omega)).trans (heap_at3 _ _ _ _).2.1
  have B2 : w1.heap[w.heap.size + 1 + 1]? = _ := (hb.block _ (by simp; try omega)).trans (heap_at3 _ _ _ _).2.2
  have k0_4 : w1.cell? ⟨w.heap.size, 4, none⟩ = some (.int .i64 d4) := (blk_cell B0 4).trans rfl
  have k0_5 : w1.cell? ⟨w.heap.size, 5, none⟩ = some (.bool d5) := (blk_cell B0 5).trans rfl
  have k0_6 : w1.cell? ⟨w.heap.size, 6, none⟩ = some (.int .i64 d6) := (blk_cell B0 6).trans rfl
  have k2_0 : w1.cell? ⟨w.heap.size + 1 + 1, 0, none⟩ = some (.int .i64 0) := (blk_cell B2 0).trans rfl
  have f2_0 : w1.frozen? ⟨w.heap.size + 1 + 1, 0, none⟩ = false := blk_frozen B2 0
  have k1_0 : w1.cell? ⟨w.heap.size + 1, 0, none⟩ = some (.int .i64 0) := (blk_cell B1 0).trans rfl
  have f1_0 : w1.frozen? ⟨w.heap.size + 1, 0, none⟩ = false := blk_frozen B1 0
  have k2_1 : w1.cell? ⟨w.heap.size + 1 + 1, 1, none⟩ = some (.int .i64 0) := (blk_cell B2 1).trans rfl
  have f2_1 : w1.frozen? ⟨w.heap.size + 1 + 1, 1, none⟩ = false := blk_frozen B2 1
  have k1_1 : w1.cell? ⟨w.heap.size + 1, 1, none⟩ = some (.int .i64 0) := (blk_cell B1 1).trans rfl
  have f1_1 : w1.frozen? ⟨w.heap.size + 1, 1, none⟩ = false := blk_frozen B1 1
  have k2_2 : w1.cell? ⟨w.heap.size + 1 + 1, 2, none⟩ = some (.slice none 0 0) := (blk_cell B2 2).trans rfl
  have f2_2 : w1.frozen? ⟨w.heap.size + 1 + 1, 2, none⟩ = false := blk_frozen B2 2
  have k1_2 : w1.cell? ⟨w.heap.size + 1, 2, none⟩ = some (.slice none 0 0) := (blk_cell B1 2).trans rfl
  have f1_2 : w1.frozen? ⟨w.heap.size + 1, 2, none⟩ = false := blk_frozen B1 2
  have k2_3 : w1.cell? ⟨w.heap.size + 1 + 1, 3, none⟩ = some (.slice none 0 0) := (blk_cell B2 3).trans rfl
  have f2_3 : w1.frozen? ⟨w.heap.size + 1 + 1, 3, none⟩ = false := blk_frozen B2 3
  have k1_3 : w1.cell? ⟨w.heap.size + 1, 3, none⟩ = some (.slice none 0 0) := (blk_cell B1 3).trans rfl
  have f1_3 : w1.frozen? ⟨w.heap.size + 1, 3, none⟩ = false := blk_frozen B1 3
  have k2_4 : w1.cell? ⟨w.heap.size + 1 + 1, 4, none⟩ = some (.int .i64 0) := (blk_cell B2 4).trans rfl
  have f2_4 : w1.frozen? ⟨w.heap.size + 1 + 1, 4, none⟩ = false := blk_frozen B2 4
  have k1_4 : w1.cell? ⟨w.heap.size + 1, 4, none⟩ = some (.int .i64 0) := (blk_cell B1 4).trans rfl
  have f1_4 : w1.frozen? ⟨w.heap.size + 1, 4, none⟩ = false := blk_frozen B1 4
  have k2_5 : w1.cell? ⟨w.heap.size + 1 + 1, 5, none⟩ = some (.bool false) := (blk_cell B2 5).trans rfl
  have f2_5 : w1.frozen? ⟨w.heap.size + 1 + 1, 5, none⟩ = false := blk_frozen B2 5
  have k1_5 : w1.cell? ⟨w.heap.size + 1, 5, none⟩ = some (.bool false) := (blk_cell B1 5).trans rfl
  have f1_5 : w1.frozen? ⟨w.heap.size + 1, 5, none⟩ = false := blk_frozen B1 5
  have k2_6 : w1.cell? ⟨w.heap.size + 1 + 1, 6, none⟩ = some (.int .i64 0) := (blk_cell B2 6).trans rfl
  have f2_6 : w1.frozen? ⟨w.heap.size + 1 + 1, 6, none⟩ = false := blk_frozen B2 6
  have k1_6 : w1.cell? ⟨w.heap.size + 1, 6, none⟩ = some (.int .i64 0) := (blk_cell B1 6).trans rfl
  have f1_6 : w1.frozen? ⟨w.heap.size + 1, 6, none⟩ = false := blk_frozen B1 6
  have X1 := Aside0.mk B1
  have X2 := Aside0.mk B2
  have S2 := Aside0.mk s2
  have S3 := Aside0.mk s3
  have HB := Aside0.mk (below_step (below_alloc (below_alloc (below_alloc (Below.refl w.heap.size w) _) _) _) hb)
  have HN := Aside0.mk hne
  clear B0 B1 B2 s2 s3 hb hne
  go_wp2_with fail
  refine bodyPost_ret (results_cell_row rfl _ _ (w.heap.size + 1) 28 #[.int .i64 a0, .int .i64 a1, .slice (some ⟨b2, 0, none⟩) l2.length (l2.length + room l2.length), .slice (some ⟨b3, 0, none⟩) l3.length (l3.length + room l3.length), .int .i64 d4, .bool d5, .int .i64 d6] (0, 0) _ rfl ?_ Tryd.underlying28 rfl (by kernel_rfl)) rfl ?_
  · refine blk_put (cs := #[.int .i64 a0, .int .i64 a1, .slice (some ⟨b2, 0, none⟩) l2.length (l2.length + room l2.length), .slice (some ⟨b3, 0, none⟩) l3.length (l3.length + room l3.length), .int .i64 d4, .bool d5, .int .i64 0]) ?_ 6 _ rfl
    refine blk_put (cs := #[.int .i64 a0, .int .i64 a1, .slice (some ⟨b2, 0, none⟩) l2.length (l2.length + room l2.length), .slice (some ⟨b3, 0, none⟩) l3.length (l3.length + room l3.length), .int .i64 d4, .bool false, .int .i64 0]) ?_ 5 _ rfl
    refine blk_put (cs := #[.int .i64 a0, .int .i64 a1, .slice (some ⟨b2, 0, none⟩) l2.length (l2.length + room l2.length), .slice (some ⟨b3, 0, none⟩) l3.length (l3.length + room l3.length), .int .i64 0, .bool false, .int .i64 0]) ?_ 4 _ rfl
    refine blk_put (cs := #[.int .i64 a0, .int .i64 a1, .slice (some ⟨b2, 0, none⟩) l2.length (l2.length + room l2.length), .slice none 0 0, .int .i64 0, .bool false, .int .i64 0]) ?_ 3 _ rfl
    refine blk_put (cs := #[.int .i64 a0, .int .i64 a1, .slice none 0 0, .slice none 0 0, .int .i64 0, .bool false, .int .i64 0]) ?_ 2 _ rfl
    refine blk_put (cs := #[.int .i64 a0, .int .i64 0, .slice none 0 0, .slice none 0 0, .int .i64 0, .bool false, .int .i64 0]) ?_ 1 _ rfl
    refine blk_put (cs := #[.int .i64 0, .int .i64 0, .slice none 0 0, .slice none 0 0, .int .i64 0, .bool false, .int .i64 0]) ?_ 0 _ rfl
    refine blk_far ?_ (p := ⟨w.heap.size + 1 + 1, 6, none⟩) (by simp) _
    refine blk_far ?_ (p := ⟨w.heap.size + 1 + 1, 5, none⟩) (by simp) _
    refine blk_far ?_ (p := ⟨w.heap.size + 1 + 1, 4, none⟩) (by simp) _
    refine blk_far ?_ (p := ⟨w.heap.size + 1 + 1, 3, none⟩) (by simp) _
    refine blk_far ?_ (p := ⟨w.heap.size + 1 + 1, 2, none⟩) (by simp) _
    refine blk_far ?_ (p := ⟨w.heap.size + 1 + 1, 1, none⟩) (by simp) _
    refine blk_far ?_ (p := ⟨w.heap.size + 1 + 1, 0, none⟩) (by simp) _
    exact X1.out
  · refine ⟨_, _, rfl, ⟨b2, b3, rfl, rfl, HN.out, ⟨by omega, (Spare.set (Spare.set (Spare.set (Spare.set (Spare.set (Spare.set (Spare.set (Spare.set (Spare.set (Spare.set (Spare.set (Spare.set (Spare.set (Spare.set S2.out (p := ⟨w.heap.size + 1 + 1, 0, none⟩) (by simp; omega) _) (p := ⟨w.heap.size + 1 + 1, 1, none⟩) (by simp; omega) _) (p := ⟨w.heap.size + 1 + 1, 2, none⟩) (by simp; omega) _) (p := ⟨w.heap.size + 1 + 1, 3, none⟩) (by simp; omega) _) (p := ⟨w.heap.size + 1 + 1, 4, none⟩) (by simp; omega) _) (p := ⟨w.heap.size + 1 + 1, 5, none⟩) (by simp; omega) _) (p := ⟨w.heap.size + 1 + 1, 6, none⟩) (by simp; omega) _) (p := ⟨w.heap.size + 1, 0, none⟩) (by simp; omega) _) (p := ⟨w.heap.size + 1, 1, none⟩) (by simp; omega) _) (p := ⟨w.heap.size + 1, 2, none⟩) (by simp; omega) _) (p := ⟨w.heap.size + 1, 3, none⟩) (by simp; omega) _) (p := ⟨w.heap.size + 1, 4, none⟩) (by simp; omega) _) (p := ⟨w.heap.size + 1, 5, none⟩) (by simp; omega) _) (p := ⟨w.heap.size + 1, 6, none⟩) (by simp; omega) _).blk⟩, ⟨by omega, (Spare.set (Spare.set (Spare.set (Spare.set (Spare.set (Spare.set (Spare.set (Spare.set (Spare.set (Spare.set (Spare.set (Spare.set (Spare.set (Spare.set S3.out (p := ⟨w.heap.size + 1 + 1, 0, none⟩) (by simp; omega) _) (p := ⟨w.heap.size + 1 + 1, 1, none⟩) (by simp; omega) _) (p := ⟨w.heap.size + 1 + 1, 2, none⟩) (by simp; omega) _) (p := ⟨w.heap.size + 1 + 1, 3, none⟩) (by simp; omega) _) (p := ⟨w.heap.size + 1 + 1, 4, none⟩) (by simp; omega) _) (p := ⟨w.heap.size + 1 + 1, 5, none⟩) (by simp; omega) _) (p := ⟨w.heap.size + 1 + 1, 6, none⟩) (by simp; omega) _) (p := ⟨w.heap.size + 1, 0, none⟩) (by simp; omega) _) (p := ⟨w.heap.size + 1, 1, none⟩) (by simp; omega) _) (p := ⟨w.heap.size + 1, 2, none⟩) (by simp; omega) _) (p := ⟨w.heap.size + 1, 3, none⟩) (by simp; omega) _) (p := ⟨w.heap.size + 1, 4, none⟩) (by simp; omega) _) (p := ⟨w.heap.size + 1, 5, none⟩) (by simp; omega) _) (p := ⟨w.heap.size + 1, 6, none⟩) (by simp; omega) _).blk⟩⟩, ?_⟩
    repeat (refine below_set ?_ (by omega))
    exact HB.out



theorem cut_past {P : Program} (t e : TypeId) {i : TypeInfo} (ht : P.underlying t = some (.slice e)) (hi : P.info? e = some i) (A : Option Addr) (n c : Nat) (j : Int) (h0 : 0 ≤ j) (hm : j ≤ c) :
    ∀ W : World, (Instr.slice t (.slice A n c) none (some (.int .i64 j)) none).run P W = .ok (.slice A j.toNat c) W := by
  intro W
  have hel : P.elem t = e := by simp [Program.elem, ht]
  have hu : P.underlying t = some (.slice (P.elem t)) := by rw [hel]; exact ht
  have ha : (A.map fun x => x.add 0) = A := by cases A <;> simp [Addr.add]
  rw [run_slice_h W t A n c hu .i64 j h0 hm, hel]
  simp [sizeOf, typeInfo, hi, sliced, Result.andThen, ha]
theorem spare_length (l : List Int) : (spare l).length = l.length + room l.length := by simp [spare]
theorem Spare.readsAll {base : Nat} {w' : World} {b : Nat} {l : List Int} (h : Spare base w' b l) (hlen : l.length ≤ 1000000) : Kd.C (Kd.int .i64) w' (some ⟨b, 0, none⟩) (spare l).length (spare l) := by
  have hroom : room l.length ≤ l.length + 1 := by unfold room; split <;> (try split) <;> omega
  refine Kd.C_of_reads (d := (0 : Int)) (h1 := fun _ => rfl) ?_
  refine ⟨rfl, by rw [spare_length]; omega, fun hp => ⟨_, rfl, fun j hj => ?_⟩⟩
  rw [Go.Proofs.YtdjecdghfmadoaaDoorW.PrintWords.add_plain, blk_cell h.blk j, numCells_get _ _ hj]
theorem eq_same (l : List Int) (h : l.length ≤ 9000000) : ∃ k, laws_eqIntS.f k l l = some true := by
  have key : ∀ d i : Nat, i + d = l.length → laws_eqIntS.l0 (d + 1) l l i = some true := by
    intro d
    induction d with
    | zero =>
      intro i hi
      simp only [laws_eqIntS.l0]
      rw [if_neg (by omega)]
    | succ d ih =>
      intro i hi
      have := ih (i + 1) (by omega)
      rw [laws_eqIntS.l0, if_pos (by omega), if_pos (by omega), if_pos (by omega), if_pos rfl]
      rw [show wrap64 ((i : Int) + 1) = ((i + 1 : Nat) : Int) by unfold wrap64; omega]
      exact this
  refine ⟨l.length + 1, ?_⟩
  unfold laws_eqIntS.f
  rw [if_pos rfl]
  exact key l.length 0 (by omega)
set_option maxHeartbeats 4000000 in
set_option maxRecDepth 100000 in
theorem intact_ok (base1 base2 b1 b2 : Nat) (l : List Int) (w : World) (s1 : Spare base1 w b1 l) (s2 : Spare base2 w b2 l) (hlen : l.length ≤ 1000000) :
    Calls Tryd.prog 37 #[.slice (some ⟨b1, 0, none⟩) l.length (l.length + room l.length), .slice (some ⟨b2, 0, none⟩) l.length (l.length + room l.length)] w fun e w' => e = .returned (.bool true) ∧ Drawn0 w w' := by
  have hroom : room l.length ≤ l.length + 1 := by unfold room; split <;> (try split) <;> omega
  have RC := fun W => room_calls l.length hlen W
  obtain ⟨k, hk⟩ := eq_same (spare l) (by rw [spare_length]; omega)
  have EC := fun W h1 h2 => laws_eqIntS.calls k (some ⟨b1, 0, none⟩) (l.length + room l.length) (spare l) (some ⟨b2, 0, none⟩) (l.length + room l.length) (spare l) true W h1 (by rw [spare_length]; omega) h2 (by rw [spare_length]; omega) hk
  rw [spare_length] at EC
  have R1 := s1.readsAll hlen
  have R2 := s2.readsAll hlen
  rw [spare_length] at R1 R2
  obtain ⟨m, hm⟩ : ∃ m, room l.length = m := ⟨_, rfl⟩
  rw [hm] at RC hroom EC R1 R2
  rw [hm]
  have c1 := cut_past (P := Tryd.prog) 22 3 Tryd.underlying22 (Option.map_eq_some_iff.1 info3).choose_spec.1 (some ⟨b1, 0, none⟩) l.length (l.length + m) ((l.length : Int) + m) (by omega) (by omega)
  have c2 := cut_past (P := Tryd.prog) 22 3 Tryd.underlying22 (Option.map_eq_some_iff.1 info3).choose_spec.1 (some ⟨b2, 0, none⟩) l.length (l.length + m) ((l.length : Int) + m) (by omega) (by omega)
  rw [show ((l.length : Int) + m).toNat = l.length + m by omega] at c1 c2
  have EA := Aside0.mk EC
  have RA1 := Aside0.mk R1
  have RA2 := Aside0.mk R2
  clear EC R1 R2 s1 s2 hm hk
  go_enter Tryd.func37, Tryd.ntmps37
  go_wp2_with (go_at_call 60; refine (RC _).mono ?_; rintro e w' ⟨rfl, ⟨nd, rfl⟩⟩)
  go_quiet ((go_at_call 64; (with_reducible refine (EA.out _ (Kd.C_drewN RA1.out _) (Kd.C_drewN RA2.out _)).mono ?_); rintro e w' ⟨rfl, ⟨nd, rfl⟩⟩; (try first | exact ⟨rfl, _, World.drewN_drewN _ _ _⟩ | exact ⟨rfl, _, Eq.trans (World.drewN_drewN _ _ _) (congrArg (World.drewN _) (Nat.add_assoc _ _ _))⟩)))
  go_wp2
  go_ret
  exact ⟨rfl, by repeat (first | exact Drawn0.refl _ | apply Drawn0.step)⟩
theorem heap_at2 (w : World) (o0 o1 : Obj) : ((w.alloc o0).alloc o1).heap[w.heap.size]? = some o0 ∧ ((w.alloc o0).alloc o1).heap[w.heap.size + 1]? = some o1 := by
  refine ⟨?_, ?_⟩
  · show ((w.heap.push o0).push o1)[w.heap.size]? = _
    rw [Array.getElem?_push, if_neg (by simp), Array.getElem?_push, if_pos rfl]
  · show ((w.heap.push o0).push o1)[w.heap.size + 1]? = _
    rw [Array.getElem?_push, if_pos (by simp)]
theorem SpareFig.later {base : Nat} {w w2 : World} {v2 v3 : Value} {l2 l3 : List Int} (h : SpareFig base w v2 v3 l2 l3) (hb : Below w.heap.size w w2) : SpareFig base w2 v2 v3 l2 l3 := by
  obtain ⟨b2, b3, h1, h2, h3, h4, h5⟩ := h.out
  exact ⟨b2, b3, h1, h2, h3, h4.later hb, h5.later hb⟩
theorem SpareFig.low {base base' : Nat} {w : World} {v2 v3 : Value} {l2 l3 : List Int} (h : SpareFig base w v2 v3 l2 l3) (hb : base' ≤ base) : SpareFig base' w v2 v3 l2 l3 := by
  obtain ⟨b2, b3, h1, h2, h3, h4, h5⟩ := h.out
  exact ⟨b2, b3, h1, h2, h3, h4.low hb, h5.low hb⟩
set_option maxHeartbeats 4000000 in
set_option maxRecDepth 100000 in
theorem intactfig_ok (a0 a1 : Int) (base1 base2 : Nat) (v2 v3 u2 u3 : Value) (l2 l3 : List Int) (w : World) (s1 : SpareFig base1 w v2 v3 l2 l3) (s2 : SpareFig base2 w u2 u3 l2 l3) (h2 : l2.length ≤ 1000000) (h3 : l3.length ≤ 1000000) :
    Calls Tryd.prog 13 #[.agg #[.int .i64 a0, .int .i64 a1, v2, v3], .agg #[.int .i64 a0, .int .i64 a1, u2, u3]] w fun e w' => e = .returned (.bool true) ∧ Below w.heap.size w w' := by
  obtain ⟨b2, b3, rfl, rfl, _, p2, p3⟩ := s1.out
  obtain ⟨d2, d3, rfl, rfl, _, q2, q3⟩ := s2.out
  have C2 := fun W hb => intact_ok base1 base2 b2 d2 l2 W (p2.later hb) (q2.later hb) h2
  have C3 := fun W hb => intact_ok base1 base2 b3 d3 l3 W (p3.later hb) (q3.later hb) h3
  have hu := Tryd.underlying26
  clear p2 p3 q2 q3 s1 s2
  go_enter Tryd.func13, Tryd.ntmps13
  go_wp2_with fail
  refine (C2 _ (below_alloc (below_alloc (Below.refl _ _) _) _)).mono ?_
  rintro e w' ⟨rfl, ⟨nd, rfl⟩⟩
  go_wp2_with fail
  refine (C3 _ (pw_below_drewN (below_alloc (below_alloc (Below.refl _ _) _) _) _)).mono ?_
  rintro e w' ⟨rfl, ⟨nd2, rfl⟩⟩
  go_wp2_with fail
  go_ret
  exact ⟨rfl, by repeat (first | exact Below.refl _ _ | apply below_alloc | apply pw_below_drewN | apply below_drew1)⟩

set_option maxHeartbeats 4000000 in
set_option maxRecDepth 100000 in
theorem intactpuzzle_ok (a0 a1 d4 : Int) (d5 : Bool) (d6 : Int) (base1 base2 : Nat) (v2 v3 u2 u3 : Value) (l2 l3 : List Int) (w : World) (s1 : SpareFig base1 w v2 v3 l2 l3) (s2 : SpareFig base2 w u2 u3 l2 l3) (h2 : l2.length ≤ 1000000) (h3 : l3.length ≤ 1000000) :
    Calls Tryd.prog 21 #[.agg #[.int .i64 a0, .int .i64 a1, v2, v3, .int .i64 d4, .bool d5, .int .i64 d6], .agg #[.int .i64 a0, .int .i64 a1, u2, u3, .int .i64 d4, .bool d5, .int .i64 d6]] w fun e w' => e = .returned (.bool true) ∧ Below w.heap.size w w' := by
  have C2 := fun W hb => intactfig_ok a0 a1 base1 base2 v2 v3 u2 u3 l2 l3 W (s1.later hb) (s2.later hb) h2 h3
  have hu := Tryd.underlying26
  have hu2 := Tryd.underlying28
  clear s1 s2
  go_enter Tryd.func21, Tryd.ntmps21
  go_wp2_with fail
  refine (C2 _ (below_alloc (below_alloc (Below.refl _ _) _) _)).mono ?_
  rintro e w1 ⟨rfl, hb⟩
  have B0 : w1.heap[w.heap.size]? = _ := (hb.block _ (by simp; try omega)).trans (heap_at2 _ _ _).1
  have B1 : w1.heap[w.heap.size + 1]? = _ := (hb.block _ (by simp; try omega)).trans (heap_at2 _ _ _).2
  have k0 : w1.cell? ⟨w.heap.size, 4, none⟩ = some (.int .i64 d4) := (blk_cell B0 4).trans rfl
  have k1 : w1.cell? ⟨w.heap.size + 1, 4, none⟩ = some (.int .i64 d4) := (blk_cell B1 4).trans rfl
  have k2 : w1.cell? ⟨w.heap.size, 5, none⟩ = some (.bool d5) := (blk_cell B0 5).trans rfl
  have k3 : w1.cell? ⟨w.heap.size + 1, 5, none⟩ = some (.bool d5) := (blk_cell B1 5).trans rfl
  have k4 : w1.cell? ⟨w.heap.size, 6, none⟩ = some (.int .i64 d6) := (blk_cell B0 6).trans rfl
  have k5 : w1.cell? ⟨w.heap.size + 1, 6, none⟩ = some (.int .i64 d6) := (blk_cell B1 6).trans rfl
  have HB := Aside0.mk (below_step (below_alloc (below_alloc (Below.refl w.heap.size w) _) _) hb)
  clear B0 B1 hb
  go_wp2_with fail
  go_ret
  exact ⟨rfl, HB.out⟩


theorem blk_cells5 {w : World} {g t : Nat} {c0 c1 c2 c3 c4 : Value} (h : w.heap[g]? = some (.cells #[c0, c1, c2, c3, c4] t (0, 0))) : w.cell? ⟨g, 0, none⟩ = some c0 ∧ w.cell? ⟨g, 1, none⟩ = some c1 ∧ w.cell? ⟨g, 2, none⟩ = some c2 ∧ w.cell? ⟨g, 3, none⟩ = some c3 ∧ w.cell? ⟨g, 4, none⟩ = some c4 :=
  ⟨(blk_cell h 0).trans rfl, (blk_cell h 1).trans rfl, (blk_cell h 2).trans rfl, (blk_cell h 3).trans rfl, (blk_cell h 4).trans rfl⟩
theorem SpareFig.reads {base : Nat} {w : World} {v2 v3 : Value} {l2 l3 : List Int} (h : SpareFig base w v2 v3 l2 l3) (h2 : l2.length ≤ 1000000) (h3 : l3.length ≤ 1000000) :
    ∃ A2 c2 A3 c3, v2 = .slice A2 l2.length c2 ∧ v3 = .slice A3 l3.length c3 ∧ l2.length ≤ c2 ∧ l3.length ≤ c3 ∧ Kd.C (Kd.int .i64) w A2 l2.length l2 ∧ Kd.C (Kd.int .i64) w A3 l3.length l3 := by
  obtain ⟨b2, b3, e2, e3, _, p2, p3⟩ := h.out
  exact ⟨_, _, _, _, e2, e3, by omega, by omega, p2.reads h2, p3.reads h3⟩
theorem blk_later {w w' : World} {g : Nat} {o : Obj} (h : w.heap[g]? = some o) (hb : Below w.heap.size w w') : w'.heap[g]? = some o := (hb.block g (blk_lt h)).trans h

set_option maxHeartbeats 16000000 in
set_option maxRecDepth 100000 in
theorem law_IsSymmetric (ks ki : Nat) (r0 : Bool) (r1 : Bool) (z0 : Int) (a0 a1 : Int) (A2 : Option Addr) (c2 : Nat) (l2 : List Int) (A3 : Option Addr) (c3 : Nat) (l3 : List Int) (d4 : Int) (d5 : Bool) (d6 : Int) (w : World) (hT : TzTab w)
    (hr2 : Kd.C (Kd.int .i64) w A2 l2.length l2) (hr3 : Kd.C (Kd.int .i64) w A3 l3.length l3) (hc2 : l2.length ≤ c2) (hc3 : l3.length ≤ c3)
    (hsz0 : laws_szPuzzle.f a0 a1 l2 l3 d4 d5 d6 1000000 = some z0)
    (hlen : 0 ≤ z0 → l2.length ≤ 1000000 ∧ l3.length ≤ 1000000)
    (hs : 0 ≤ z0 → spec_IsSymmetric.f ks a0 a1 l2 l3 d4 d5 d6 = some (r0, r1)) (hi : 0 ≤ z0 → impl_IsSymmetric.f ki a0 a1 l2 l3 d4 d5 d6 = some (r0, r1)) :
    Calls Tryd.prog 4 #[.agg #[.int .i64 a0, .int .i64 a1, .slice A2 l2.length c2, .slice A3 l3.length c3, .int .i64 d4, .bool d5, .int .i64 d6]] w fun e w' => e = .returned (.bool true) ∧ Below w.heap.size w w' := by
  have SZ0 := fun W hr2 hr3 => laws_szPuzzle.calls a0 a1 A2 c2 l2 A3 c3 l3 d4 d5 d6 1000000 z0 W hr2 hc2 hr3 hc3 hsz0
  have HR2 := Aside0.mk hr2
  have HR3 := Aside0.mk hr3
  have HT := Aside0.mk hT
  clear hT
  have huPuzzle := Tryd.underlying38
  have hvPuzzle := Tryd.underlying28
  clear hr2 hr3 hsz0
  by_cases hneg0 : z0 < 0
  · have hdec0 : decide (z0 < 0) = true := decide_eq_true hneg0
    clear hs hi hlen
    go_enter Tryd.func4, Tryd.ntmps4
    go_wp2_with fail
    refine (SZ0 _ (Kd.C_alloc HR2.out _) (Kd.C_alloc HR3.out _)).mono ?_
    rintro e w1 ⟨rfl, hb⟩
    have BX0_1 := Aside0.mk (blk_later (heap_new w _) hb)
    have HB_1 := Aside0.mk (below_step (below_alloc (Below.refl w.heap.size w) _) hb)
    clear hb
    have k0_0 : w1.cell? ⟨w.heap.size, 0, none⟩ = some (.int .i64 a0) := (blk_cell BX0_1.out 0).trans rfl
    have k0_1 : w1.cell? ⟨w.heap.size, 1, none⟩ = some (.int .i64 a1) := (blk_cell BX0_1.out 1).trans rfl
    have k0_2 : w1.cell? ⟨w.heap.size, 2, none⟩ = some (.slice A2 l2.length c2) := (blk_cell BX0_1.out 2).trans rfl
    have k0_3 : w1.cell? ⟨w.heap.size, 3, none⟩ = some (.slice A3 l3.length c3) := (blk_cell BX0_1.out 3).trans rfl
    have k0_4 : w1.cell? ⟨w.heap.size, 4, none⟩ = some (.int .i64 d4) := (blk_cell BX0_1.out 4).trans rfl
    have k0_5 : w1.cell? ⟨w.heap.size, 5, none⟩ = some (.bool d5) := (blk_cell BX0_1.out 5).trans rfl
    have k0_6 : w1.cell? ⟨w.heap.size, 6, none⟩ = some (.int .i64 d6) := (blk_cell BX0_1.out 6).trans rfl
    go_wp2_with fail
    go_ret
    exact ⟨rfl, HB_1.out⟩
  · have hdec0 : decide (z0 < 0) = false := decide_eq_false hneg0
    obtain ⟨hl2, hl3⟩ := hlen (by omega)
    replace hs := hs (by omega)
    replace hi := hi (by omega)
    clear hlen
    have TO0 := fun W hr2 hr3 => topuzzle_full a0 a1 A2 c2 l2 A3 c3 l3 d4 d5 d6 W hr2 hr3 hl2 hl3
    have TB0 := fun W hr2 hr3 => laws_toPuzzle.calls a0 a1 A2 c2 l2 A3 c3 l3 d4 d5 d6 true a0 a1 l2 l3 d4 d5 d6 W hr2 hc2 hr3 hc3 (by simp [laws_toPuzzle.f, laws_toFigure.f, laws_toIntS.f, hl2, hl3])
    have SP := fun A2 c2 A3 c3 W hr2 hc2 hr3 hc3 => spec_IsSymmetric.calls ks a0 a1 A2 c2 l2 A3 c3 l3 d4 d5 d6 r0 r1 W hr2 hc2 hr3 hc3 hs
    have IM := fun A2 c2 A3 c3 W hT hr2 hc2 hr3 hc3 => impl_IsSymmetric.calls ki a0 a1 A2 c2 l2 A3 c3 l3 d4 d5 d6 r0 r1 W hT hr2 hc2 hr3 hc3 hi
    clear hs hi
    go_enter Tryd.func4, Tryd.ntmps4
    go_wp2_with fail
    refine (SZ0 _ (Kd.C_alloc HR2.out _) (Kd.C_alloc HR3.out _)).mono ?_
    rintro e w1 ⟨rfl, hb⟩
    have BX0_1 := Aside0.mk (blk_later (heap_new w _) hb)
    have HB_1 := Aside0.mk (below_step (below_alloc (Below.refl w.heap.size w) _) hb)
    clear hb
    have k0_0 : w1.cell? ⟨w.heap.size, 0, none⟩ = some (.int .i64 a0) := (blk_cell BX0_1.out 0).trans rfl
    have k0_1 : w1.cell? ⟨w.heap.size, 1, none⟩ = some (.int .i64 a1) := (blk_cell BX0_1.out 1).trans rfl
    have k0_2 : w1.cell? ⟨w.heap.size, 2, none⟩ = some (.slice A2 l2.length c2) := (blk_cell BX0_1.out 2).trans rfl
    have k0_3 : w1.cell? ⟨w.heap.size, 3, none⟩ = some (.slice A3 l3.length c3) := (blk_cell BX0_1.out 3).trans rfl
    have k0_4 : w1.cell? ⟨w.heap.size, 4, none⟩ = some (.int .i64 d4) := (blk_cell BX0_1.out 4).trans rfl
    have k0_5 : w1.cell? ⟨w.heap.size, 5, none⟩ = some (.bool d5) := (blk_cell BX0_1.out 5).trans rfl
    have k0_6 : w1.cell? ⟨w.heap.size, 6, none⟩ = some (.int .i64 d6) := (blk_cell BX0_1.out 6).trans rfl
    go_wp2_with fail
    refine (TO0 _ (Kd.C_below HR2.out (HB_1.out)) (Kd.C_below HR3.out (HB_1.out))).mono ?_
    rintro e w2 ⟨v2, v3, rfl, sf, hb⟩
    have BX0_2 := Aside0.mk (blk_later (BX0_1.out) hb)
    have HB_2 := Aside0.mk (below_step (HB_1.out) hb)
    obtain ⟨B2, e2, B3, e3, rfl, rfl, q2, q3, r2, r3⟩ := sf.reads hl2 hl3
    clear hb sf
    clear k0_0 k0_1 k0_2 k0_3 k0_4 k0_5 k0_6
    have k0_0 : w2.cell? ⟨w.heap.size, 0, none⟩ = some (.int .i64 a0) := (blk_cell BX0_2.out 0).trans rfl
    have k0_1 : w2.cell? ⟨w.heap.size, 1, none⟩ = some (.int .i64 a1) := (blk_cell BX0_2.out 1).trans rfl
    have k0_2 : w2.cell? ⟨w.heap.size, 2, none⟩ = some (.slice A2 l2.length c2) := (blk_cell BX0_2.out 2).trans rfl
    have k0_3 : w2.cell? ⟨w.heap.size, 3, none⟩ = some (.slice A3 l3.length c3) := (blk_cell BX0_2.out 3).trans rfl
    have k0_4 : w2.cell? ⟨w.heap.size, 4, none⟩ = some (.int .i64 d4) := (blk_cell BX0_2.out 4).trans rfl
    have k0_5 : w2.cell? ⟨w.heap.size, 5, none⟩ = some (.bool d5) := (blk_cell BX0_2.out 5).trans rfl
    have k0_6 : w2.cell? ⟨w.heap.size, 6, none⟩ = some (.int .i64 d6) := (blk_cell BX0_2.out 6).trans rfl
    go_wp2_with fail
    refine (SP _ _ _ _ _ r2 q2 r3 q3).mono ?_
    rintro e w3 ⟨rfl, hb⟩
    have BX0_3 := Aside0.mk (blk_later (BX0_2.out) hb)
    have HB_3 := Aside0.mk (below_step (HB_2.out) hb)
    clear hb r2 q2 r3 q3
    clear k0_0 k0_1 k0_2 k0_3 k0_4 k0_5 k0_6
    have k0_0 : w3.cell? ⟨w.heap.size, 0, none⟩ = some (.int .i64 a0) := (blk_cell BX0_3.out 0).trans rfl
    have k0_1 : w3.cell? ⟨w.heap.size, 1, none⟩ = some (.int .i64 a1) := (blk_cell BX0_3.out 1).trans rfl
    have k0_2 : w3.cell? ⟨w.heap.size, 2, none⟩ = some (.slice A2 l2.length c2) := (blk_cell BX0_3.out 2).trans rfl
    have k0_3 : w3.cell? ⟨w.heap.size, 3, none⟩ = some (.slice A3 l3.length c3) := (blk_cell BX0_3.out 3).trans rfl
    have k0_4 : w3.cell? ⟨w.heap.size, 4, none⟩ = some (.int .i64 d4) := (blk_cell BX0_3.out 4).trans rfl
    have k0_5 : w3.cell? ⟨w.heap.size, 5, none⟩ = some (.bool d5) := (blk_cell BX0_3.out 5).trans rfl
    have k0_6 : w3.cell? ⟨w.heap.size, 6, none⟩ = some (.int .i64 d6) := (blk_cell BX0_3.out 6).trans rfl
    go_wp2_with fail
    refine (TO0 _ (Kd.C_below HR2.out (HB_3.out)) (Kd.C_below HR3.out (HB_3.out))).mono ?_
    rintro e w4 ⟨v2, v3, rfl, sf, hb⟩
    have BX0_4 := Aside0.mk (blk_later (BX0_3.out) hb)
    have HB_4 := Aside0.mk (below_step (HB_3.out) hb)
    have SF0_4 := Aside0.mk sf
    obtain ⟨B2, e2, B3, e3, rfl, rfl, q2, q3, r2, r3⟩ := sf.reads hl2 hl3
    clear hb sf
    clear k0_0 k0_1 k0_2 k0_3 k0_4 k0_5 k0_6
    have k0_0 : w4.cell? ⟨w.heap.size, 0, none⟩ = some (.int .i64 a0) := (blk_cell BX0_4.out 0).trans rfl
    have k0_1 : w4.cell? ⟨w.heap.size, 1, none⟩ = some (.int .i64 a1) := (blk_cell BX0_4.out 1).trans rfl
    have k0_2 : w4.cell? ⟨w.heap.size, 2, none⟩ = some (.slice A2 l2.length c2) := (blk_cell BX0_4.out 2).trans rfl
    have k0_3 : w4.cell? ⟨w.heap.size, 3, none⟩ = some (.slice A3 l3.length c3) := (blk_cell BX0_4.out 3).trans rfl
    have k0_4 : w4.cell? ⟨w.heap.size, 4, none⟩ = some (.int .i64 d4) := (blk_cell BX0_4.out 4).trans rfl
    have k0_5 : w4.cell? ⟨w.heap.size, 5, none⟩ = some (.bool d5) := (blk_cell BX0_4.out 5).trans rfl
    have k0_6 : w4.cell? ⟨w.heap.size, 6, none⟩ = some (.int .i64 d6) := (blk_cell BX0_4.out 6).trans rfl
    have szb := blk_lt BX0_4.out
    go_wp2_with fail
    refine (IM _ _ _ _ _ (tz_below HT.out (below_alloc (HB_4.out) _)) (Kd.C_alloc r2 _) q2 (Kd.C_alloc r3 _) q3).mono ?_
    rintro e w5 ⟨rfl, hb⟩
    have BX0_5 := Aside0.mk (blk_later (blk_alloc BX0_4.out _) hb)
    have HB_5 := Aside0.mk (below_step (below_alloc (HB_4.out) _) hb)
    have BXx0_5 := Aside0.mk (blk_later (heap_new w4 _) hb)
    have SF0_5 := Aside0.mk (SF0_4.out.later (below_step (below_alloc (Below.refl _ _) _) hb))
    clear hb r2 q2 r3 q3
    clear k0_0 k0_1 k0_2 k0_3 k0_4 k0_5 k0_6 szb
    have k0_0 : w5.cell? ⟨w.heap.size, 0, none⟩ = some (.int .i64 a0) := (blk_cell BX0_5.out 0).trans rfl
    have k0_1 : w5.cell? ⟨w.heap.size, 1, none⟩ = some (.int .i64 a1) := (blk_cell BX0_5.out 1).trans rfl
    have k0_2 : w5.cell? ⟨w.heap.size, 2, none⟩ = some (.slice A2 l2.length c2) := (blk_cell BX0_5.out 2).trans rfl
    have k0_3 : w5.cell? ⟨w.heap.size, 3, none⟩ = some (.slice A3 l3.length c3) := (blk_cell BX0_5.out 3).trans rfl
    have k0_4 : w5.cell? ⟨w.heap.size, 4, none⟩ = some (.int .i64 d4) := (blk_cell BX0_5.out 4).trans rfl
    have k0_5 : w5.cell? ⟨w.heap.size, 5, none⟩ = some (.bool d5) := (blk_cell BX0_5.out 5).trans rfl
    have k0_6 : w5.cell? ⟨w.heap.size, 6, none⟩ = some (.int .i64 d6) := (blk_cell BX0_5.out 6).trans rfl
    have kx0_0 : w5.cell? ⟨w4.heap.size, 0, none⟩ = some (.int .i64 a0) := (blk_cell BXx0_5.out 0).trans rfl
    have kx0_1 : w5.cell? ⟨w4.heap.size, 1, none⟩ = some (.int .i64 a1) := (blk_cell BXx0_5.out 1).trans rfl
    have kx0_2 : w5.cell? ⟨w4.heap.size, 2, none⟩ = some (.slice B2 l2.length e2) := (blk_cell BXx0_5.out 2).trans rfl
    have kx0_3 : w5.cell? ⟨w4.heap.size, 3, none⟩ = some (.slice B3 l3.length e3) := (blk_cell BXx0_5.out 3).trans rfl
    have kx0_4 : w5.cell? ⟨w4.heap.size, 4, none⟩ = some (.int .i64 d4) := (blk_cell BXx0_5.out 4).trans rfl
    have kx0_5 : w5.cell? ⟨w4.heap.size, 5, none⟩ = some (.bool d5) := (blk_cell BXx0_5.out 5).trans rfl
    have kx0_6 : w5.cell? ⟨w4.heap.size, 6, none⟩ = some (.int .i64 d6) := (blk_cell BXx0_5.out 6).trans rfl
    go_wp2_with fail
    have INT := fun base1 base2 u2 u3 W s1 s2 => intactpuzzle_ok a0 a1 d4 d5 d6 base1 base2 (.slice B2 l2.length e2) (.slice B3 l3.length e3) u2 u3 l2 l3 W s1 s2 hl2 hl3
    go_region_held3 (fun W => W.cell? ⟨w.heap.size, 0, none⟩ = some (.int .i64 a0) ∧ W.cell? ⟨w.heap.size, 1, none⟩ = some (.int .i64 a1) ∧ W.cell? ⟨w.heap.size, 2, none⟩ = some (.slice A2 l2.length c2) ∧ W.cell? ⟨w.heap.size, 3, none⟩ = some (.slice A3 l3.length c3) ∧ W.cell? ⟨w.heap.size, 4, none⟩ = some (.int .i64 d4) ∧ W.cell? ⟨w.heap.size, 5, none⟩ = some (.bool d5) ∧ W.cell? ⟨w.heap.size, 6, none⟩ = some (.int .i64 d6) ∧ W.cell? ⟨w4.heap.size, 0, none⟩ = some (.int .i64 a0) ∧ W.cell? ⟨w4.heap.size, 1, none⟩ = some (.int .i64 a1) ∧ W.cell? ⟨w4.heap.size, 2, none⟩ = some (.slice B2 l2.length e2) ∧ W.cell? ⟨w4.heap.size, 3, none⟩ = some (.slice B3 l3.length e3) ∧ W.cell? ⟨w4.heap.size, 4, none⟩ = some (.int .i64 d4) ∧ W.cell? ⟨w4.heap.size, 5, none⟩ = some (.bool d5) ∧ W.cell? ⟨w4.heap.size, 6, none⟩ = some (.int .i64 d6))
      (first
        | (go_split_ands; exact ⟨pw_cell_below hb2 (pw_cell_below hb k0_0), pw_cell_below hb2 (pw_cell_below hb k0_1), pw_cell_below hb2 (pw_cell_below hb k0_2), pw_cell_below hb2 (pw_cell_below hb k0_3), pw_cell_below hb2 (pw_cell_below hb k0_4), pw_cell_below hb2 (pw_cell_below hb k0_5), pw_cell_below hb2 (pw_cell_below hb k0_6), pw_cell_below hb2 (pw_cell_below hb kx0_0), pw_cell_below hb2 (pw_cell_below hb kx0_1), pw_cell_below hb2 (pw_cell_below hb kx0_2), pw_cell_below hb2 (pw_cell_below hb kx0_3), pw_cell_below hb2 (pw_cell_below hb kx0_4), pw_cell_below hb2 (pw_cell_below hb kx0_5), pw_cell_below hb2 (pw_cell_below hb kx0_6)⟩)
        | (go_split_ands; exact ⟨pw_cell_below hb k0_0, pw_cell_below hb k0_1, pw_cell_below hb k0_2, pw_cell_below hb k0_3, pw_cell_below hb k0_4, pw_cell_below hb k0_5, pw_cell_below hb k0_6, pw_cell_below hb kx0_0, pw_cell_below hb kx0_1, pw_cell_below hb kx0_2, pw_cell_below hb kx0_3, pw_cell_below hb kx0_4, pw_cell_below hb kx0_5, pw_cell_below hb kx0_6⟩)
        | go_keep)
      (first
        | (go_at_call 19; refine (TO0 _ (Kd.C_below HR2.out (below_drew1 HB_5.out)) (Kd.C_below HR3.out (below_drew1 HB_5.out))).mono ?_; rintro e w6 ⟨u2, u3, rfl, sf, hb⟩)
        | (go_at_call 21; refine (INT _ _ _ _ _ (SF0_5.out.later (below_step (below_drew1 (Below.refl _ _)) hb)) sf).mono ?_; rintro e w7 ⟨rfl, hb2⟩))
    have BX0_7 := Aside0.mk (blk_later (blk_later (w := w5.drew) BX0_5.out hb) hb2)
    have BXx0_7 := Aside0.mk (blk_later (blk_later (w := w5.drew) BXx0_5.out hb) hb2)
    have HB_7 := Aside0.mk (below_step (below_step (below_drew1 HB_5.out) hb) hb2)
    clear hb hb2 sf
    clear k0_0 k0_1 k0_2 k0_3 k0_4 k0_5 k0_6 kx0_0 kx0_1 kx0_2 kx0_3 kx0_4 kx0_5 kx0_6 INT
    have k0_0 : w7.cell? ⟨w.heap.size, 0, none⟩ = some (.int .i64 a0) := (blk_cell BX0_7.out 0).trans rfl
    have k0_1 : w7.cell? ⟨w.heap.size, 1, none⟩ = some (.int .i64 a1) := (blk_cell BX0_7.out 1).trans rfl
    have k0_2 : w7.cell? ⟨w.heap.size, 2, none⟩ = some (.slice A2 l2.length c2) := (blk_cell BX0_7.out 2).trans rfl
    have k0_3 : w7.cell? ⟨w.heap.size, 3, none⟩ = some (.slice A3 l3.length c3) := (blk_cell BX0_7.out 3).trans rfl
    have k0_4 : w7.cell? ⟨w.heap.size, 4, none⟩ = some (.int .i64 d4) := (blk_cell BX0_7.out 4).trans rfl
    have k0_5 : w7.cell? ⟨w.heap.size, 5, none⟩ = some (.bool d5) := (blk_cell BX0_7.out 5).trans rfl
    have k0_6 : w7.cell? ⟨w.heap.size, 6, none⟩ = some (.int .i64 d6) := (blk_cell BX0_7.out 6).trans rfl
    go_wp2_with fail
    refine (TB0 _ (Kd.C_below HR2.out (HB_7.out)) (Kd.C_below HR3.out (HB_7.out))).mono ?_
    rintro e w8 ⟨v2, v3, rfl, o2, o3, hb⟩
    obtain ⟨D2, g2, rfl, q2, r2⟩ := Kd.R_reads o2
    obtain ⟨D3, g3, rfl, q3, r3⟩ := Kd.R_reads o3
    have BX0_8 := Aside0.mk (blk_later (BX0_7.out) hb)
    have HB_8 := Aside0.mk (below_step (HB_7.out) hb)
    clear hb o2 o3
    clear k0_0 k0_1 k0_2 k0_3 k0_4 k0_5 k0_6
    have k0_0 : w8.cell? ⟨w.heap.size, 0, none⟩ = some (.int .i64 a0) := (blk_cell BX0_8.out 0).trans rfl
    have k0_1 : w8.cell? ⟨w.heap.size, 1, none⟩ = some (.int .i64 a1) := (blk_cell BX0_8.out 1).trans rfl
    have k0_2 : w8.cell? ⟨w.heap.size, 2, none⟩ = some (.slice A2 l2.length c2) := (blk_cell BX0_8.out 2).trans rfl
    have k0_3 : w8.cell? ⟨w.heap.size, 3, none⟩ = some (.slice A3 l3.length c3) := (blk_cell BX0_8.out 3).trans rfl
    have k0_4 : w8.cell? ⟨w.heap.size, 4, none⟩ = some (.int .i64 d4) := (blk_cell BX0_8.out 4).trans rfl
    have k0_5 : w8.cell? ⟨w.heap.size, 5, none⟩ = some (.bool d5) := (blk_cell BX0_8.out 5).trans rfl
    have k0_6 : w8.cell? ⟨w.heap.size, 6, none⟩ = some (.int .i64 d6) := (blk_cell BX0_8.out 6).trans rfl
    go_wp2_with fail
    refine (IM _ _ _ _ _ (tz_below HT.out (HB_8.out)) r2 q2 r3 q3).mono ?_
    rintro e w9 ⟨rfl, hb⟩
    have BX0_9 := Aside0.mk (blk_later (BX0_8.out) hb)
    have HB_9 := Aside0.mk (below_step (HB_8.out) hb)
    clear hb r2 q2 r3 q3
    clear k0_0 k0_1 k0_2 k0_3 k0_4 k0_5 k0_6
    go_wp2_with fail
    go_ret
    exact ⟨rfl, HB_9.out⟩

/-! The number of bits that are set, and the program's way to count them. -/
/-- how many of the first n bits of x are set -/
def pcn : Nat → Nat → Nat
  | 0, _ => 0
  | n + 1, x => x % 2 + pcn n (x / 2)
/-- the same mask in each of n bytes -/
def rep (m : Nat) : Nat → Nat
  | 0 => 0
  | n + 1 => m + 256 * rep m n
theorem and_split (a b m M : Nat) (ha : a < 256) (hm : m < 256) : (a + 256 * b) &&& (m + 256 * M) = (a &&& m) + 256 * (b &&& M) := by
  apply Nat.eq_of_testBit_eq
  intro i
  have e : ∀ x y : Nat, x < 256 → (x + 256 * y).testBit i = if i < 8 then x.testBit i else y.testBit (i - 8) := by
    intro x y hx
    rw [Nat.add_comm, show 256 * y = 2 ^ 8 * y by rfl, Nat.testBit_two_pow_mul_add y (by simpa using hx)]
  have hl : (a &&& m) < 256 := Nat.and_lt_two_pow (n := 8) a hm
  rw [Nat.testBit_and, e a b ha, e m M hm, e _ _ hl]
  split <;> rw [Nat.testBit_and]
def st1 (x : Nat) : Nat := (x / 2 &&& 85) + (x &&& 85)
def st2 (x : Nat) : Nat := (x / 4 &&& 51) + (x &&& 51)
def st3 (x : Nat) : Nat := (x / 16 + x) &&& 15
def s1 (n x : Nat) : Nat := (x / 2 &&& rep 85 n) + (x &&& rep 85 n)
def s2 (n x : Nat) : Nat := (x / 4 &&& rep 51 n) + (x &&& rep 51 n)
def s3 (n x : Nat) : Nat := (x / 16 + x) &&& rep 15 n
theorem byte1 : ∀ a : Fin 256, ∀ c : Fin 2, (((a.val / 2 + 128 * c.val) &&& 85) = (a.val / 2 &&& 85)) ∧ st1 a.val < 256 := by decide +kernel
theorem byte2 : ∀ a : Fin 256, ∀ c : Fin 4, (((a.val / 4 + 64 * c.val) &&& 51) = (a.val / 4 &&& 51)) ∧ st2 a.val < 256 := by decide +kernel
theorem byte3 : ∀ a : Fin 256, ∀ c : Fin 5, a.val % 16 ≤ 4 → a.val / 16 ≤ 4 → ((a.val / 16 + a.val + 16 * c.val) &&& 15) = st3 a.val ∧ a.val / 16 + a.val + 16 * c.val < 256 := by decide +kernel
theorem byteAll : ∀ a : Fin 256, st3 (st2 (st1 a.val)) = pcn 8 a.val ∧ pcn 8 a.val ≤ 8 ∧ st2 (st1 a.val) % 16 ≤ 4 ∧ st2 (st1 a.val) / 16 ≤ 4 := by decide +kernel
theorem s1_step (n a b : Nat) (ha : a < 256) : s1 (n + 1) (a + 256 * b) = st1 a + 256 * s1 n b := by
  unfold s1
  have e : (a + 256 * b) / 2 = (a / 2 + 128 * (b % 2)) + 256 * (b / 2) := by omega
  have h := byte1 ⟨a, ha⟩ ⟨b % 2, by omega⟩
  rw [e, rep, and_split _ _ _ _ (by omega) (by omega), and_split _ _ _ _ ha (by omega), h.1]
  unfold st1
  simp only
  omega
theorem s2_step (n a b : Nat) (ha : a < 256) : s2 (n + 1) (a + 256 * b) = st2 a + 256 * s2 n b := by
  unfold s2
  have e : (a + 256 * b) / 4 = (a / 4 + 64 * (b % 4)) + 256 * (b / 4) := by omega
  have h := byte2 ⟨a, ha⟩ ⟨b % 4, by omega⟩
  rw [e, rep, and_split _ _ _ _ (by omega) (by omega), and_split _ _ _ _ ha (by omega), h.1]
  unfold st2
  simp only
  omega
theorem s3_step (n a b : Nat) (ha : a < 256) (h1 : a % 16 ≤ 4) (h2 : a / 16 ≤ 4) (h3 : b % 16 ≤ 4) : s3 (n + 1) (a + 256 * b) = st3 a + 256 * s3 n b := by
  unfold s3
  have e : (a + 256 * b) / 16 + (a + 256 * b) = (a / 16 + a + 16 * (b % 16)) + 256 * (b / 16 + b) := by omega
  have h := byte3 ⟨a, ha⟩ ⟨b % 16, by omega⟩ h1 h2
  rw [e, rep, and_split _ _ _ _ h.2 (by omega), h.1]
/-- the bytes of the three first stages: each tells its own count -/
def cnt : Nat → Nat → Nat
  | 0, _ => 0
  | n + 1, x => pcn 8 (x % 256) + 256 * cnt n (x / 256)
theorem stages (n : Nat) : ∀ x : Nat, x < 256 ^ n → s3 n (s2 n (s1 n x)) = cnt n x ∧ s2 n (s1 n x) % 16 ≤ 4 := by
  induction n with
  | zero =>
    intro x hx
    obtain rfl : x = 0 := by simpa using hx
    decide
  | succ n ih =>
    intro x hx
    have hb : x / 256 < 256 ^ n := by rw [Nat.pow_succ] at hx; omega
    obtain ⟨i1, i2⟩ := ih (x / 256) hb
    have e : x = x % 256 + 256 * (x / 256) := by omega
    have hA := byteAll ⟨x % 256, by omega⟩
    have b1 := (byte1 ⟨x % 256, by omega⟩ 0).2
    have b2 := (byte2 ⟨st1 (x % 256), b1⟩ 0).2
    rw [e, s1_step _ _ _ (by omega), s2_step _ _ _ b1]
    refine ⟨?_, ?_⟩
    · rw [s3_step _ _ _ b2 hA.2.2.1 hA.2.2.2 i2, i1, hA.1]
      simp only [cnt]
      rw [show (x % 256 + 256 * (x / 256)) % 256 = x % 256 by omega, show (x % 256 + 256 * (x / 256)) / 256 = x / 256 by omega]
    · have := hA.2.2.1
      simp only at this
      omega
theorem pcn_byte (n : Nat) : ∀ x : Nat, pcn (8 + n) x = pcn 8 (x % 256) + pcn n (x / 256) := by
  intro x
  have key : ∀ m y : Nat, pcn (m + n) y = pcn m (y % 2 ^ m) + pcn n (y / 2 ^ m) := by
    intro m
    induction m with
    | zero => intro y; simp [pcn]
    | succ m ih =>
      intro y
      rw [show m + 1 + n = (m + n) + 1 by omega]
      simp only [pcn]
      rw [ih (y / 2), Nat.div_div_eq_div_mul, show 2 * 2 ^ m = 2 ^ (m + 1) by rw [Nat.pow_succ]; omega]
      have h1 : y % 2 ^ (m + 1) % 2 = y % 2 := Nat.mod_mod_of_dvd _ ⟨2 ^ m, by rw [Nat.pow_succ]; omega⟩
      have h2 : y % 2 ^ (m + 1) / 2 = y / 2 % 2 ^ m := by
        rw [Nat.pow_succ, Nat.mul_comm, Nat.mod_mul_right_div_self]
      rw [h1, h2]
      omega
  exact key 8 x
theorem div1 (b t : Nat) (h : b < 256) : (b + 256 * t) / 256 = t := by omega
theorem div2 (b c t : Nat) (h : b < 256) (h2 : c < 256) : (b + 256 * (c + 256 * t)) / 65536 = t := by
  rw [show 65536 = 256 * 256 by rfl, ← Nat.div_div_eq_div_mul, div1 _ _ h, div1 _ _ h2]
theorem div4 (b c d e t : Nat) (h : b < 256) (h2 : c < 256) (h3 : d < 256) (h4 : e < 256) : (b + 256 * (c + 256 * (d + 256 * (e + 256 * t)))) / 4294967296 = t := by
  rw [show 4294967296 = 65536 * 65536 by rfl, ← Nat.div_div_eq_div_mul, div2 _ _ _ h h2, div2 _ _ _ h3 h4]
theorem lt_step (b t N : Nat) (h : b < 256) (ht : t < N) : b + 256 * t < 256 * N := by omega
theorem lt8 (b0 b1 b2 b3 b4 b5 b6 b7 : Nat) (h0 : b0 < 256) (h1 : b1 < 256) (h2 : b2 < 256) (h3 : b3 < 256) (h4 : b4 < 256) (h5 : b5 < 256) (h6 : b6 < 256) (h7 : b7 < 256) : b0 + 256 * (b1 + 256 * (b2 + 256 * (b3 + 256 * (b4 + 256 * (b5 + 256 * (b6 + 256 * b7)))))) < 18446744073709551616 :=
  lt_step _ _ _ h0 (lt_step _ _ _ h1 (lt_step _ _ _ h2 (lt_step _ _ _ h3 (lt_step _ _ _ h4 (lt_step _ _ _ h5 (lt_step _ _ _ h6 h7))))))
theorem add1 (b0 b1 b2 b3 b4 b5 b6 b7 : Nat) : (b0 + 256 * (b1 + 256 * (b2 + 256 * (b3 + 256 * (b4 + 256 * (b5 + 256 * (b6 + 256 * b7))))))) + (b1 + 256 * (b2 + 256 * (b3 + 256 * (b4 + 256 * (b5 + 256 * (b6 + 256 * b7)))))) = (b0 + b1) + 256 * ((b1 + b2) + 256 * ((b2 + b3) + 256 * ((b3 + b4) + 256 * ((b4 + b5) + 256 * ((b5 + b6) + 256 * ((b6 + b7) + 256 * b7)))))) := by omega
theorem add2 (b0 b1 b2 b3 b4 b5 b6 b7 : Nat) : (b0 + 256 * (b1 + 256 * (b2 + 256 * (b3 + 256 * (b4 + 256 * (b5 + 256 * (b6 + 256 * b7))))))) + (b2 + 256 * (b3 + 256 * (b4 + 256 * (b5 + 256 * (b6 + 256 * b7))))) = (b0 + b2) + 256 * ((b1 + b3) + 256 * ((b2 + b4) + 256 * ((b3 + b5) + 256 * ((b4 + b6) + 256 * ((b5 + b7) + 256 * (b6 + 256 * b7)))))) := by omega
theorem add4 (b0 b1 b2 b3 b4 b5 b6 b7 : Nat) : (b0 + 256 * (b1 + 256 * (b2 + 256 * (b3 + 256 * (b4 + 256 * (b5 + 256 * (b6 + 256 * b7))))))) + (b4 + 256 * (b5 + 256 * (b6 + 256 * b7))) = (b0 + b4) + 256 * ((b1 + b5) + 256 * ((b2 + b6) + 256 * ((b3 + b7) + 256 * (b4 + 256 * (b5 + 256 * (b6 + 256 * b7)))))) := by omega
theorem mod128 (b t : Nat) (h : b < 128) : (b + 256 * t) % 128 = b := by omega
/-- the last three stages add the bytes -/
theorem add_bytes (b0 b1 b2 b3 b4 b5 b6 b7 : Nat) (h0 : b0 ≤ 8) (h1 : b1 ≤ 8) (h2 : b2 ≤ 8) (h3 : b3 ≤ 8) (h4 : b4 ≤ 8) (h5 : b5 ≤ 8) (h6 : b6 ≤ 8) (h7 : b7 ≤ 8) (x y z : Nat)
    (hx : x = b0 + 256 * (b1 + 256 * (b2 + 256 * (b3 + 256 * (b4 + 256 * (b5 + 256 * (b6 + 256 * b7)))))))
    (hy : y = x + x / 256) (hz : z = y + y / 65536) : z + z / 4294967296 < 18446744073709551616 ∧ y < 18446744073709551616 ∧ z < 18446744073709551616 ∧ (z + z / 4294967296) % 128 = b0 + b1 + b2 + b3 + b4 + b5 + b6 + b7 := by
  rw [hx, div1 _ _ (by omega), add1] at hy
  rw [hy, div2 _ _ _ (by omega) (by omega), add2] at hz
  rw [hz, div4 _ _ _ _ _ (by omega) (by omega) (by omega) (by omega), add4, hy, mod128 _ _ (by omega)]
  refine ⟨lt8 _ _ _ _ _ _ _ _ ?_ ?_ ?_ ?_ ?_ ?_ ?_ ?_, lt8 _ _ _ _ _ _ _ _ ?_ ?_ ?_ ?_ ?_ ?_ ?_ ?_, lt8 _ _ _ _ _ _ _ _ ?_ ?_ ?_ ?_ ?_ ?_ ?_ ?_, ?_⟩ <;> omega

theorem and64 (a M : Nat) (ha : a < 18446744073709551616) (hM : M < 18446744073709551616) (b : Int) (hb : b = (a : Int)) (c : Int) (hc : c = (M : Int)) : Go.bits .and .u64 b c = ((a &&& M : Nat) : Int) := by
  subst hb hc
  exact u64_and_nat a M ha hM
theorem wrap64u (a : Nat) (ha : a < 18446744073709551616) (b : Int) (hb : b = (a : Int)) : IntKind.u64.wrap b = (a : Int) := by
  subst hb
  rw [IntKind.wrap_u64]
  omega
theorem rep85 : rep 85 8 = 6148914691236517205 := by decide
theorem rep51 : rep 51 8 = 3689348814741910323 := by decide
theorem rep15 : rep 15 8 = 1085102592571150095 := by decide
theorem s1_lt (m : Nat) : s1 8 m < 18446744073709551616 := by
  have h1 : m / 2 &&& rep 85 8 ≤ rep 85 8 := Nat.and_le_right
  have h2 : m &&& rep 85 8 ≤ rep 85 8 := Nat.and_le_right
  rw [rep85] at h1 h2
  unfold s1
  rw [rep85]; omega
theorem s2_lt (m : Nat) : s2 8 m ≤ 7378697629483820646 := by
  have h1 : m / 4 &&& rep 51 8 ≤ rep 51 8 := Nat.and_le_right
  have h2 : m &&& rep 51 8 ≤ rep 51 8 := Nat.and_le_right
  rw [rep51] at h1 h2
  unfold s2
  rw [rep51]; omega
theorem pcn_zero (x : Nat) : pcn 0 x = 0 := rfl
theorem cnt8 (x : Nat) : ∃ b0 b1 b2 b3 b4 b5 b6 b7 : Nat, (b0 ≤ 8 ∧ b1 ≤ 8 ∧ b2 ≤ 8 ∧ b3 ≤ 8 ∧ b4 ≤ 8 ∧ b5 ≤ 8 ∧ b6 ≤ 8 ∧ b7 ≤ 8) ∧ cnt 8 x = b0 + 256 * (b1 + 256 * (b2 + 256 * (b3 + 256 * (b4 + 256 * (b5 + 256 * (b6 + 256 * b7)))))) ∧ pcn 64 x = b0 + b1 + b2 + b3 + b4 + b5 + b6 + b7 := by
  have hb : ∀ y : Nat, pcn 8 (y % 256) ≤ 8 := fun y => (byteAll ⟨y % 256, by omega⟩).2.1
  refine ⟨_, _, _, _, _, _, _, _, ⟨hb x, hb (x / 256), hb (x / 256 / 256), hb (x / 256 / 256 / 256), hb (x / 256 / 256 / 256 / 256), hb (x / 256 / 256 / 256 / 256 / 256), hb (x / 256 / 256 / 256 / 256 / 256 / 256), hb (x / 256 / 256 / 256 / 256 / 256 / 256 / 256)⟩, rfl, ?_⟩
  rw [show (64 : Nat) = 8 + 56 by rfl, pcn_byte, show (56 : Nat) = 8 + 48 by rfl, pcn_byte, show (48 : Nat) = 8 + 40 by rfl, pcn_byte, show (40 : Nat) = 8 + 32 by rfl, pcn_byte, show (32 : Nat) = 8 + 24 by rfl, pcn_byte, show (24 : Nat) = 8 + 16 by rfl, pcn_byte, show (16 : Nat) = 8 + 8 by rfl, pcn_byte]
  rw [show pcn 8 (x / 256 / 256 / 256 / 256 / 256 / 256 / 256) = pcn (8 + 0) (x / 256 / 256 / 256 / 256 / 256 / 256 / 256) by rfl, pcn_byte, pcn_zero]
  omega
theorem h1_f (m : Nat) (hm : m < 18446744073709551616) : IntKind.u64.wrap ((Go.bits .and .u64 ((m : Int) / 2) 6148914691236517205) + (Go.bits .and .u64 (m : Int) 6148914691236517205)) = ((s1 8 m : Nat) : Int) := by
  rw [and64 (m / 2) (rep 85 8) (by omega) (by rw [rep85]; omega) _ (by omega) _ (by rw [rep85]; omega), and64 m (rep 85 8) hm (by rw [rep85]; omega) _ rfl _ (by rw [rep85]; omega)]
  exact wrap64u _ (s1_lt m) _ (by unfold s1; push_cast; rfl)
theorem h2_f (m : Nat) (hm : m < 18446744073709551616) : IntKind.u64.wrap ((Go.bits .and .u64 ((m : Int) / 4) 3689348814741910323) + (Go.bits .and .u64 (m : Int) 3689348814741910323)) = ((s2 8 m : Nat) : Int) := by
  have := s2_lt m
  rw [and64 (m / 4) (rep 51 8) (by omega) (by rw [rep51]; omega) _ (by omega) _ (by rw [rep51]; omega), and64 m (rep 51 8) hm (by rw [rep51]; omega) _ rfl _ (by rw [rep51]; omega)]
  exact wrap64u _ (by omega) _ (by unfold s2; push_cast; rfl)
theorem h3_f (m : Nat) (hm : m ≤ 7378697629483820646) : Go.bits .and .u64 (IntKind.u64.wrap ((m : Int) / 16 + (m : Int))) 1085102592571150095 = ((s3 8 m : Nat) : Int) := by
  rw [wrap64u (m / 16 + m) (by omega) _ (by omega)]
  exact and64 _ _ (by omega) (by rw [rep15]; omega) _ rfl _ (by rw [rep15]; omega)
theorem h4_f (x d : Nat) (h : x + x / d < 18446744073709551616) : IntKind.u64.wrap ((x : Int) + (x : Int) / (d : Int)) = ((x + x / d : Nat) : Int) := wrap64u _ h _ (by push_cast; rfl)
theorem h5_f (n : Nat) (h : n < 18446744073709551616) : Go.bits .and .i64 (wrap64 (n : Int)) 127 = ((n % 128 : Nat) : Int) := by
  rw [i64_and127]
  unfold wrap64
  omega
set_option maxHeartbeats 4000000 in
theorem ones_f (m : Nat) (hm : m < 18446744073709551616) : bits_OnesCount64.f (m : Int) = some ((pcn 64 m : Nat) : Int) := by
  have hs := (stages 8 m (by simpa using hm)).1
  obtain ⟨b0, b1, b2, b3, b4, b5, b6, b7, ⟨q0, q1, q2, q3, q4, q5, q6, q7⟩, hc, hp⟩ := cnt8 m
  rw [hc] at hs
  generalize hx : b0 + 256 * (b1 + 256 * (b2 + 256 * (b3 + 256 * (b4 + 256 * (b5 + 256 * (b6 + 256 * b7)))))) = x at hs
  obtain ⟨a1, a2, a3, a4⟩ := add_bytes b0 b1 b2 b3 b4 b5 b6 b7 q0 q1 q2 q3 q4 q5 q6 q7 x (x + x / 256) ((x + x / 256) + (x + x / 256) / 65536) hx.symm rfl rfl
  rw [hp, ← a4]
  clear q0 q1 q2 q3 q4 q5 q6 q7 hc hp a4 hx
  unfold bits_OnesCount64.f
  simp only [h1_f m hm, h2_f _ (s1_lt m), h3_f _ (s2_lt _), hs]
  rw [show (256 : Int) = ((256 : Nat) : Int) by rfl, h4_f x 256 a2, show (65536 : Int) = ((65536 : Nat) : Int) by rfl, h4_f _ 65536 a3, show (4294967296 : Int) = ((4294967296 : Nat) : Int) by rfl, h4_f _ 4294967296 a1, h5_f _ a1]

/-! Figures: both programs ask the same. -/
def Rise (l : List Int) : Prop := ∀ j : Nat, 1 ≤ j → j < l.length → rd l ((j : Int) - 1) < rd l j
def Within (l : List Int) (lo hi : Int) : Prop := ∀ x ∈ l, lo ≤ x ∧ x ≤ hi
theorem w64 (x : Int) (h1 : -9223372036854775808 ≤ x) (h2 : x ≤ 9223372036854775807) : wrap64 x = x := by unfold wrap64; omega

theorem rd_mem {l : List Int} {j : Nat} (h : j < l.length) : rd l (j : Int) ∈ l := by
  have e : rd l (j : Int) = l[j] := by simp [rd, h]
  rw [e]; exact List.getElem_mem h
theorem mem_rd {l : List Int} {x : Int} (h : x ∈ l) : ∃ j : Nat, j < l.length ∧ rd l (j : Int) = x := by
  obtain ⟨j, hj, rfl⟩ := List.getElem_of_mem h
  exact ⟨j, hj, by simp [rd, hj]⟩

theorem impl_within_f (a lo hi : Int) : impl_within.f a lo hi = some (decide (lo ≤ a) && decide (a ≤ hi)) := by
  unfold impl_within.f
  by_cases h : lo ≤ a <;> simp [h]
theorem spec_l1In_f (a lo hi : Int) : spec_l1In.f a lo hi = some (decide (lo ≤ a) && decide (a ≤ hi)) := by
  unfold spec_l1In.f
  by_cases h : lo ≤ a
  · rw [if_pos h]; simp [h]
  · rw [if_neg (by omega)]; simp [h]


theorem impl_rising_l (l : List Int) (hn : l.length ≤ 4611686018427387904) : ∀ (d i k : Nat), 1 ≤ i → i + d = max l.length i → d < k → ∃ b, impl_isRising.l0 k l (i : Int) = some b ∧ (b = true ↔ ∀ j : Nat, i ≤ j → j < l.length → rd l ((j : Int) - 1) < rd l j) := by
  intro d
  induction d with
  | zero =>
    intro i k h1 hi hk
    obtain ⟨k, rfl⟩ : ∃ m, k = m + 1 := ⟨k - 1, by omega⟩
    refine ⟨true, ?_, ?_⟩
    · simp only [impl_isRising.l0]; rw [if_neg (by omega)]
    · simp; intro j hj hl; omega
  | succ d ih =>
    intro i k h1 hi hk
    obtain ⟨k, rfl⟩ : ∃ m, k = m + 1 := ⟨k - 1, by omega⟩
    have hlt : (i : Int) < (l.length : Int) := by omega
    simp only [impl_isRising.l0]
    rw [if_pos hlt, if_pos (by omega), w64 _ (by omega) (by omega), if_pos (by omega), if_pos (by omega)]
    by_cases hc : rd l (i : Int) ≤ rd l ((i : Int) - 1)
    · rw [if_pos hc]
      refine ⟨false, rfl, ?_⟩
      simp
      exact ⟨i, Nat.le_refl _, by omega, by omega⟩
    · rw [if_neg hc, w64 _ (by omega) (by omega)]
      obtain ⟨b, hb, hiff⟩ := ih (i + 1) k (by omega) (by omega) (by omega)
      refine ⟨b, by exact_mod_cast hb, hiff.trans ⟨fun h j hj hl => ?_, fun h j hj hl => h j (by omega) hl⟩⟩
      by_cases e : j = i
      · subst e; omega
      · exact h j (by omega) hl
theorem impl_rising (l : List Int) (hn : l.length ≤ 4611686018427387904) (k : Nat) (hk : l.length + 1 ≤ k) : ∃ b, impl_isRising.f k l = some b ∧ (b = true ↔ Rise l) := by
  obtain ⟨b, hb, hiff⟩ := impl_rising_l l hn (max l.length 1 - 1) 1 k (by omega) (by omega) (by omega)
  exact ⟨b, hb, hiff⟩
theorem impl_areWithin_f (l : List Int) (lo hi : Int) : ∃ b, impl_areWithin.f l lo hi = some b ∧ (b = true ↔ Within l lo hi) := by
  refine ⟨_, rfl, ?_⟩
  unfold Within awP
  simp only [Bool.not_eq_true', List.any_eq_false]
  constructor
  · intro h x hx
    have := h x hx
    simpa using this
  · intro h x hx
    have := h x hx
    simp [this.1, this.2]

theorem spec_l1All_l (l : List Int) (lo hi : Int) (hn : l.length ≤ 4611686018427387904) : ∀ (d i k : Nat), i + d = l.length → d < k → ∃ b, spec_l1All.l0 k lo hi l (l.length : Int) (i : Int) = some b ∧ (b = true ↔ ∀ j : Nat, i ≤ j → j < l.length → lo ≤ rd l j ∧ rd l j ≤ hi) := by
  intro d
  induction d with
  | zero =>
    intro i k hi hk
    obtain ⟨k, rfl⟩ : ∃ m, k = m + 1 := ⟨k - 1, by omega⟩
    refine ⟨true, ?_, ?_⟩
    · simp only [spec_l1All.l0]; rw [if_neg (by omega)]
    · simp; intro j hj hl; omega
  | succ d ih =>
    intro i k hi2 hk
    obtain ⟨k, rfl⟩ : ∃ m, k = m + 1 := ⟨k - 1, by omega⟩
    simp only [spec_l1All.l0]
    rw [if_pos (by omega), if_pos (by omega), if_pos (by omega), spec_l1In_f]
    simp only [Option.bind_some]
    by_cases hc : lo ≤ rd l (i : Int) ∧ rd l (i : Int) ≤ hi
    · rw [if_pos (by simp [hc.1, hc.2]), w64 _ (by omega) (by omega)]
      obtain ⟨b, hb, hiff⟩ := ih (i + 1) k (by omega) (by omega)
      refine ⟨b, by exact_mod_cast hb, hiff.trans ⟨fun h j hj hl => ?_, fun h j hj hl => h j (by omega) hl⟩⟩
      by_cases e : j = i
      · subst e; exact hc
      · exact h j (by omega) hl
    · rw [if_neg (by simpa using hc)]
      refine ⟨false, rfl, ?_⟩
      simp
      exact ⟨i, Nat.le_refl _, by omega, by omega⟩
theorem spec_l1All_f (l : List Int) (lo hi : Int) (hn : l.length ≤ 4611686018427387904) (k : Nat) (hk : l.length + 1 ≤ k) : ∃ b, spec_l1All.f k l lo hi = some b ∧ (b = true ↔ Within l lo hi) := by
  obtain ⟨b, hb, hiff⟩ := spec_l1All_l l lo hi hn l.length 0 k (by omega) (by omega)
  refine ⟨b, hb, hiff.trans ⟨fun h x hx => ?_, fun h j _ hl => h _ (rd_mem hl)⟩⟩
  obtain ⟨j, hj, rfl⟩ := mem_rd hx
  exact h j (by omega) hj
theorem spec_fiRises_l (l : List Int) (hn : l.length ≤ 4611686018427387904) : ∀ (d i k : Nat), 1 ≤ i → i + d = max l.length i → d < k → ∃ b, spec_fiRises.l0 k l (i : Int) = some b ∧ (b = true ↔ ∀ j : Nat, i ≤ j → j < l.length → rd l ((j : Int) - 1) < rd l j) := by
  intro d
  induction d with
  | zero =>
    intro i k h1 hi hk
    obtain ⟨k, rfl⟩ : ∃ m, k = m + 1 := ⟨k - 1, by omega⟩
    refine ⟨true, ?_, ?_⟩
    · simp only [spec_fiRises.l0]; rw [if_neg (by omega)]
    · simp; intro j hj hl; omega
  | succ d ih =>
    intro i k h1 hi hk
    obtain ⟨k, rfl⟩ : ∃ m, k = m + 1 := ⟨k - 1, by omega⟩
    have hlt : (i : Int) < (l.length : Int) := by omega
    simp only [spec_fiRises.l0]
    rw [if_pos hlt, w64 ((i : Int) - 1) (by omega) (by omega), if_pos (by omega), if_pos (by omega), if_pos (by omega)]
    by_cases hc : rd l ((i : Int) - 1) ≥ rd l (i : Int)
    · rw [if_pos hc]
      refine ⟨false, rfl, ?_⟩
      simp
      exact ⟨i, Nat.le_refl _, by omega, by omega⟩
    · rw [if_neg hc, w64 _ (by omega) (by omega)]
      obtain ⟨b, hb, hiff⟩ := ih (i + 1) k (by omega) (by omega) (by omega)
      refine ⟨b, by exact_mod_cast hb, hiff.trans ⟨fun h j hj hl => ?_, fun h j hj hl => h j (by omega) hl⟩⟩
      by_cases e : j = i
      · subst e; omega
      · exact h j (by omega) hl
theorem rise_index {l : List Int} (h : Rise l) {lo : Int} (h0 : ∀ x ∈ l, lo ≤ x) : ∀ j : Nat, j < l.length → lo + j ≤ rd l (j : Int) := by
  intro j
  induction j with
  | zero => intro hl; have := h0 _ (rd_mem hl); simpa using this
  | succ j ih =>
    intro hl
    have h1 := ih (by omega)
    have h2 := h (j + 1) (by omega) hl
    rw [show ((j + 1 : Nat) : Int) - 1 = (j : Int) by omega] at h2
    omega
theorem rise_length {l : List Int} {most : Int} (h : Rise l) (hw : Within l 0 most) (hm : 0 ≤ most) : (l.length : Int) ≤ most + 1 := by
  by_cases hz : l.length = 0
  · omega
  · have h1 := rise_index h (lo := 0) (fun x hx => (hw x hx).1) (l.length - 1) (by omega)
    have h2 := (hw _ (rd_mem (j := l.length - 1) (by omega))).2
    omega
theorem spec_fiRises_f (l : List Int) (most : Int) (h0 : 0 ≤ most) (hm : most ≤ 1000) (hn : l.length ≤ 4611686018427387904) (k : Nat) (hk : l.length + 3 ≤ k) : ∃ b, spec_fiRises.f k l most = some b ∧ (b = true ↔ Rise l ∧ Within l 0 most) := by
  unfold spec_fiRises.f
  rw [w64 _ (by omega) (by omega)]
  obtain ⟨k, rfl⟩ : ∃ m, k = m + 1 := ⟨k - 1, by omega⟩
  by_cases hc : (l.length : Int) > most + 1
  · rw [if_pos hc]
    refine ⟨false, by simp [spec_fiRises.j0], ?_⟩
    simp
    intro h1 h2
    have := rise_length h1 h2 h0
    omega
  · rw [if_neg hc]
    obtain ⟨b, hb, hiff⟩ := spec_l1All_f l 0 most hn (k + 1) (by omega)
    rw [hb]
    simp only [Option.bind_some, spec_fiRises.j0]
    cases b with
    | false =>
      refine ⟨false, by simp, ?_⟩
      have : ¬ Within l 0 most := fun z => by simpa using hiff.2 z
      simp
      exact fun _ => this
    | true =>
      rw [if_neg (by simp)]
      obtain ⟨b, hb, hiff2⟩ := spec_fiRises_l l hn (max l.length 1 - 1) 1 k (by omega) (by omega) (by omega)
      exact ⟨b, hb, hiff2.trans ⟨fun h => ⟨h, hiff.1 rfl⟩, fun h => h.1⟩⟩

/-- what a figure is -/
structure FigOK (w h : Int) (l2 l3 : List Int) : Prop where
  w1 : 1 ≤ w
  w4 : w ≤ 4
  h1 : 1 ≤ h
  h4 : h ≤ 4
  r2 : Rise l2
  r3 : Rise l3
  in2 : Within l2 0 (w * (h + 1) - 1)
  in3 : Within l3 0 (h * (w + 1) - 1)
theorem mul_bounds {w h : Int} (h1 : 1 ≤ w) (h2 : w ≤ 4) (h3 : 1 ≤ h) (h4 : h ≤ 4) : 2 ≤ w * (h + 1) ∧ w * (h + 1) ≤ 20 ∧ 2 ≤ h * (w + 1) ∧ h * (w + 1) ≤ 20 ∧ (w + 1) * h = h * (w + 1) ∧ 1 ≤ w * h ∧ w * h ≤ 16 := by
  have hw : w = 1 ∨ w = 2 ∨ w = 3 ∨ w = 4 := by omega
  have hh : h = 1 ∨ h = 2 ∨ h = 3 ∨ h = 4 := by omega
  rcases hw with rfl | rfl | rfl | rfl <;> rcases hh with rfl | rfl | rfl | rfl <;> decide
theorem grid_mul {w h : Int} (h1 : 1 ≤ w) (h2 : w ≤ 4) (h3 : 1 ≤ h) (h4 : h ≤ 4) : wrap64 (w * wrap64 (h + 1)) = w * (h + 1) ∧ wrap64 (h * wrap64 (w + 1)) = h * (w + 1) ∧ wrap64 (wrap64 (w + 1) * h) = h * (w + 1) ∧ wrap64 (w * h) = w * h := by
  obtain ⟨a, b, c, d, e, f, g⟩ := mul_bounds h1 h2 h3 h4
  rw [w64 (h + 1) (by omega) (by omega), w64 (w + 1) (by omega) (by omega), e]
  exact ⟨w64 _ (by omega) (by omega), w64 _ (by omega) (by omega), w64 _ (by omega) (by omega), w64 _ (by omega) (by omega)⟩
theorem impl_isGrid_f (w h : Int) : impl_isGrid.f w h = some (decide (1 ≤ w ∧ w ≤ 4 ∧ 1 ≤ h ∧ h ≤ 4)) := by
  unfold impl_isGrid.f
  rw [impl_within_f]
  simp only [Option.bind_some]
  by_cases hc : 1 ≤ w ∧ w ≤ 4
  · rw [if_pos (by simp [hc.1, hc.2]), impl_within_f]
    simp [hc.1, hc.2]
  · rw [if_neg (by simpa using hc)]
    simp
    intro a b
    exact absurd ⟨a, b⟩ hc
theorem spec_fiGrid_f (w h : Int) : spec_fiGrid.f w h = some (decide (1 ≤ w ∧ w ≤ 4 ∧ 1 ≤ h ∧ h ≤ 4)) := by
  unfold spec_fiGrid.f
  rw [spec_l1In_f]
  simp only [Option.bind_some]
  by_cases hc : 1 ≤ w ∧ w ≤ 4
  · rw [if_pos (by simp [hc.1, hc.2]), spec_l1In_f]
    simp [hc.1, hc.2]
  · rw [if_neg (by simpa using hc)]
    simp
    intro a b
    exact absurd ⟨a, b⟩ hc
theorem impl_IsFigure_f (w h : Int) (l2 l3 : List Int) (h2 : l2.length ≤ 4611686018427387904) (h3 : l3.length ≤ 4611686018427387904) (k : Nat) (hk : l2.length + l3.length + 5 ≤ k) : ∃ b, impl_IsFigure.f k w h l2 l3 = some b ∧ (b = true ↔ FigOK w h l2 l3) := by
  unfold impl_IsFigure.f impl_Figure_grid.f impl_grid_levels.f impl_grid_uprights.f
  rw [impl_isGrid_f]
  simp only [Option.bind_some]
  by_cases hc : 1 ≤ w ∧ w ≤ 4 ∧ 1 ≤ h ∧ h ≤ 4
  · rw [if_pos (by simpa using hc)]
    obtain ⟨e1, e2, _⟩ := grid_mul hc.1 hc.2.1 hc.2.2.1 hc.2.2.2
    obtain ⟨m1, m2, m3, m4, _⟩ := mul_bounds hc.1 hc.2.1 hc.2.2.1 hc.2.2.2
    rw [e1, e2, w64 (w * (h + 1) - 1) (by omega) (by omega), w64 (h * (w + 1) - 1) (by omega) (by omega)]
    obtain ⟨b2, q2, i2⟩ := impl_rising l2 h2 k (by omega)
    obtain ⟨b3, q3, i3⟩ := impl_rising l3 h3 k (by omega)
    obtain ⟨b4, q4, i4⟩ := impl_areWithin_f l2 0 (w * (h + 1) - 1)
    obtain ⟨b5, q5, i5⟩ := impl_areWithin_f l3 0 (h * (w + 1) - 1)
    rw [q2, q3, q4, q5]
    simp only [Option.bind_some]
    refine ⟨b2 && (b3 && (b4 && b5)), by cases b2 <;> cases b3 <;> cases b4 <;> rfl, ?_⟩
    simp only [Bool.and_eq_true, i2, i3, i4, i5]
    exact ⟨fun ⟨a, b, c, d⟩ => ⟨hc.1, hc.2.1, hc.2.2.1, hc.2.2.2, a, b, c, d⟩, fun x => ⟨x.r2, x.r3, x.in2, x.in3⟩⟩
  · rw [if_neg (by simpa using hc)]
    refine ⟨false, rfl, ?_⟩
    simp
    exact fun x => hc ⟨x.w1, x.w4, x.h1, x.h4⟩
theorem spec_fiGood_f (w h : Int) (l2 l3 : List Int) (h2 : l2.length ≤ 4611686018427387904) (h3 : l3.length ≤ 4611686018427387904) (k : Nat) (hk : l2.length + l3.length + 5 ≤ k) : ∃ b, spec_fiGood.f k w h l2 l3 = some b ∧ (b = true ↔ FigOK w h l2 l3) := by
  unfold spec_fiGood.f
  rw [spec_fiGrid_f]
  simp only [Option.bind_some]
  by_cases hc : 1 ≤ w ∧ w ≤ 4 ∧ 1 ≤ h ∧ h ≤ 4
  · rw [if_pos (by simpa using hc)]
    obtain ⟨e1, e2, e3, _⟩ := grid_mul hc.1 hc.2.1 hc.2.2.1 hc.2.2.2
    obtain ⟨m1, m2, m3, m4, _⟩ := mul_bounds hc.1 hc.2.1 hc.2.2.1 hc.2.2.2
    rw [e1, e3, w64 (w * (h + 1) - 1) (by omega) (by omega), w64 (h * (w + 1) - 1) (by omega) (by omega)]
    obtain ⟨b2, q2, i2⟩ := spec_fiRises_f l2 (w * (h + 1) - 1) (by omega) (by omega) h2 k (by omega)
    obtain ⟨b3, q3, i3⟩ := spec_fiRises_f l3 (h * (w + 1) - 1) (by omega) (by omega) h3 k (by omega)
    rw [q2, q3]
    simp only [Option.bind_some]
    refine ⟨b2 && b3, by cases b2 <;> cases b3 <;> rfl, ?_⟩
    simp only [Bool.and_eq_true, i2, i3]
    exact ⟨fun ⟨⟨a, c⟩, b, d⟩ => ⟨hc.1, hc.2.1, hc.2.2.1, hc.2.2.2, a, b, c, d⟩, fun x => ⟨⟨x.r2, x.in2⟩, x.r3, x.in3⟩⟩
  · rw [if_neg (by simpa using hc)]
    refine ⟨false, rfl, ?_⟩
    simp
    exact fun x => hc ⟨x.w1, x.w4, x.h1, x.h4⟩
/-- both tell the same -/
theorem fig_same (w h : Int) (l2 l3 : List Int) (h2 : l2.length ≤ 4611686018427387904) (h3 : l3.length ≤ 4611686018427387904) (k : Nat) (hk : l2.length + l3.length + 5 ≤ k) : ∃ b, impl_IsFigure.f k w h l2 l3 = some b ∧ spec_fiGood.f k w h l2 l3 = some b ∧ (b = true ↔ FigOK w h l2 l3) := by
  obtain ⟨b, q, i⟩ := impl_IsFigure_f w h l2 l3 h2 h3 k hk
  obtain ⟨c, r, j⟩ := spec_fiGood_f w h l2 l3 h2 h3 k hk
  have : b = c := by rw [Bool.eq_iff_iff, i, j]
  subst this
  exact ⟨b, q, r, i⟩

/-! Sets of edges as bits. -/
theorem rise_lt {l : List Int} (h : Rise l) : ∀ (d i : Nat), i + d + 1 < l.length → rd l (i : Int) < rd l ((i + d + 1 : Nat) : Int) := by
  intro d
  induction d with
  | zero =>
    intro i hi
    have := h (i + 1) (by omega) (by omega)
    rw [show ((i + 1 : Nat) : Int) - 1 = (i : Int) by omega] at this
    exact this
  | succ d ih =>
    intro i hi
    have h1 := ih i (by omega)
    have h2 := h (i + (d + 1) + 1) (by omega) hi
    rw [show ((i + (d + 1) + 1 : Nat) : Int) - 1 = ((i + d + 1 : Nat) : Int) by omega] at h2
    omega
theorem rise_pairwise {l : List Int} (h : Rise l) : l.Pairwise (· < ·) := by
  rw [List.pairwise_iff_getElem]
  intro i j hi hj hij
  have := rise_lt h (j - i - 1) i (by omega)
  rw [show i + (j - i - 1) + 1 = j by omega] at this
  simpa [rd, hi, hj] using this
theorem pairwise_rise {l : List Int} (h : l.Pairwise (· < ·)) : Rise l := by
  intro j h1 hj
  rw [List.pairwise_iff_getElem] at h
  have := h (j - 1) j (by omega) hj (by omega)
  have e1 : rd l ((j : Int) - 1) = l[j - 1] := by
    rw [show (j : Int) - 1 = ((j - 1 : Nat) : Int) by omega]
    simp [rd, show j - 1 < l.length by omega]
  have e2 : rd l (j : Int) = l[j] := by simp [rd, hj]
  rw [e1, e2]; exact this
theorem rise_iff (l : List Int) : Rise l ↔ l.Pairwise (· < ·) := ⟨rise_pairwise, pairwise_rise⟩

theorem pow64 {x : Nat} (h : x < 64) : 2 ^ x < 18446744073709551616 := Nat.lt_of_lt_of_le (Nat.pow_lt_pow_right (by decide) h) (by decide)
theorem shl_one (x : Int) (h0 : 0 ≤ x) (h : x < 64) : shl .u64 1 x = ((2 ^ x.toNat : Nat) : Int) := by
  unfold shl
  have hx : x.toNat < 64 := by omega
  have e : min x.toNat (IntKind.u64.bits) = x.toNat := Nat.min_eq_left (by show x.toNat ≤ 64; omega)
  rw [e, IntKind.wrap_u64, Int.one_mul]
  have := pow64 hx
  have e2 : ((2 : Int) ^ x.toNat) = ((2 ^ x.toNat : Nat) : Int) := by push_cast; rfl
  rw [e2]
  exact Int.emod_eq_of_lt (Int.natCast_nonneg _) (Int.ofNat_lt.mpr this)
theorem or64 {a b : Nat} (ha : a < 18446744073709551616) (hb : b < 18446744073709551616) : a ||| b < 18446744073709551616 := Nat.or_lt_two_pow (n := 64) ha hb
/-- bits laid on, one after the other -/
def acc (base : Int) (l : List Int) (m : Nat) : Nat := l.foldl (fun m x => m ||| 2 ^ (base + x).toNat) m
theorem acc_lt (base : Int) : ∀ (l : List Int) (m : Nat), m < 18446744073709551616 → (∀ x ∈ l, 0 ≤ base + x ∧ base + x < 64) → acc base l m < 18446744073709551616 := by
  intro l
  induction l with
  | nil => intro m hm _; exact hm
  | cons x l ih =>
    intro m hm h
    have hx := h x (by simp)
    exact ih _ (or64 hm (pow64 (by omega))) (fun y hy => h y (by simp [hy]))
theorem acc_testBit (base : Int) : ∀ (l : List Int) (m j : Nat), (∀ x ∈ l, 0 ≤ base + x) → ((acc base l m).testBit j = true ↔ m.testBit j = true ∨ ((j : Int) - base) ∈ l) := by
  intro l
  induction l with
  | nil => intro m j _; simp [acc]
  | cons x l ih =>
    intro m j h
    have hx := h x (by simp)
    show (acc base l (m ||| 2 ^ (base + x).toNat)).testBit j = true ↔ _
    rw [ih _ j (fun y hy => h y (by simp [hy])), Nat.testBit_or, Nat.testBit_two_pow]
    simp only [Bool.or_eq_true, decide_eq_true_eq, List.mem_cons]
    constructor
    · rintro ((h1 | h1) | h1)
      · exact .inl h1
      · exact .inr (.inl (by omega))
      · exact .inr (.inr h1)
    · rintro (h1 | h1 | h1)
      · exact .inl (.inl h1)
      · exact .inl (.inr (by omega))
      · exact .inr h1
theorem pcn_or (n : Nat) : ∀ (m k : Nat), k < n → m.testBit k = false → pcn n (m ||| 2 ^ k) = pcn n m + 1 := by
  induction n with
  | zero => intro m k h; omega
  | succ n ih =>
    intro m k hk hb
    simp only [pcn]
    cases k with
    | zero =>
      have h0 : m % 2 = 0 := by
        have : m.testBit 0 = decide (m % 2 = 1) := by simp [Nat.testBit_zero]
        rw [this] at hb
        simp at hb
        omega
      have e1 : (m ||| 2 ^ 0) % 2 = 1 := by
        have : (m ||| 2 ^ 0).testBit 0 = true := by simp [Nat.testBit_or]
        rw [Nat.testBit_zero] at this
        simpa using this
      have e2 : (m ||| 2 ^ 0) / 2 = m / 2 := by
        apply Nat.eq_of_testBit_eq
        intro i
        rw [Nat.testBit_div_two, Nat.testBit_or, Nat.testBit_two_pow, Nat.testBit_div_two]
        simp
      rw [e1, e2]; omega
    | succ k =>
      have hb2 : (m / 2).testBit k = false := by rw [Nat.testBit_div_two]; exact hb
      have e1 : (m ||| 2 ^ (k + 1)) % 2 = m % 2 := by
        have h1 : (m ||| 2 ^ (k + 1)).testBit 0 = m.testBit 0 := by rw [Nat.testBit_or, Nat.testBit_two_pow]; simp
        rw [Nat.testBit_zero, Nat.testBit_zero, decide_eq_decide] at h1
        omega
      have e2 : (m ||| 2 ^ (k + 1)) / 2 = m / 2 ||| 2 ^ k := by
        apply Nat.eq_of_testBit_eq
        intro i
        rw [Nat.testBit_div_two, Nat.testBit_or, Nat.testBit_two_pow, Nat.testBit_or, Nat.testBit_div_two, Nat.testBit_two_pow]
        congr 1
        simp
      rw [e1, e2, ih _ k (by omega) hb2]; omega
theorem acc_count (base : Int) : ∀ (l : List Int) (m : Nat), l.Pairwise (· < ·) → (∀ x ∈ l, 0 ≤ base + x ∧ base + x < 64) → (∀ x ∈ l, m.testBit (base + x).toNat = false) → pcn 64 (acc base l m) = pcn 64 m + l.length := by
  intro l
  induction l with
  | nil => intro m _ _ _; simp [acc]
  | cons x l ih =>
    intro m hp h hb
    have hx := h x (by simp)
    rw [List.pairwise_cons] at hp
    show pcn 64 (acc base l (m ||| 2 ^ (base + x).toNat)) = _
    rw [ih _ hp.2 (fun y hy => h y (by simp [hy])) ?_, pcn_or 64 m _ (by omega) (hb x (by simp))]
    · simp; omega
    · intro y hy
      have h1 := hp.1 y hy
      rw [Nat.testBit_or, hb y (by simp [hy]), Nat.testBit_two_pow]
      simp; omega

/-- a figure's matches as bits: level ones first -/
def maskN (w h : Int) (l2 l3 : List Int) : Nat := acc (w * (h + 1)) l3 (acc 0 l2 0)
theorem FigOK.nums {w h : Int} {l2 l3 : List Int} (F : FigOK w h l2 l3) : 2 ≤ w * (h + 1) ∧ w * (h + 1) ≤ 20 ∧ 2 ≤ h * (w + 1) ∧ h * (w + 1) ≤ 20 ∧ (w + 1) * h = h * (w + 1) ∧ 1 ≤ w * h ∧ w * h ≤ 16 := mul_bounds F.w1 F.w4 F.h1 F.h4
theorem FigOK.range2 {w h : Int} {l2 l3 : List Int} (F : FigOK w h l2 l3) : ∀ x ∈ l2, 0 ≤ 0 + x ∧ 0 + x < 64 := fun x hx => by
  have := F.in2 x hx
  have := F.nums
  omega
theorem FigOK.range3 {w h : Int} {l2 l3 : List Int} (F : FigOK w h l2 l3) : ∀ x ∈ l3, 0 ≤ w * (h + 1) + x ∧ w * (h + 1) + x < 64 := fun x hx => by
  have := F.in3 x hx
  have := F.nums
  omega
theorem FigOK.mask_lt {w h : Int} {l2 l3 : List Int} (F : FigOK w h l2 l3) : maskN w h l2 l3 < 18446744073709551616 := acc_lt _ _ _ (acc_lt _ _ _ (by decide) F.range2) F.range3
theorem FigOK.mask_count {w h : Int} {l2 l3 : List Int} (F : FigOK w h l2 l3) : pcn 64 (maskN w h l2 l3) = l2.length + l3.length := by
  unfold maskN
  rw [acc_count _ _ _ (rise_pairwise F.r3) F.range3 ?_, acc_count _ _ _ (rise_pairwise F.r2) F.range2 (fun x hx => by simp)]
  · have : pcn 64 0 = 0 := by decide
    omega
  · intro x hx
    have h1 := F.range3 x hx
    cases hb : (acc 0 l2 0).testBit (w * (h + 1) + x).toNat with
    | false => rfl
    | true =>
      rw [acc_testBit _ _ _ _ (fun y hy => (F.range2 y hy).1)] at hb
      rcases hb with hb | hb
      · simp at hb
      · have := F.in2 _ hb
        have := (F.in3 x hx).1
        omega
/-- the program's set of a figure -/
theorem set_l1 (w h : Int) (hw1 : 1 ≤ w) (hw4 : w ≤ 4) (hh1 : 1 ≤ h) (hh4 : h ≤ 4) (l : List Int) (hl : ∀ x ∈ l, 0 ≤ w * (h + 1) + x ∧ w * (h + 1) + x < 64) (hn : l.length ≤ 4611686018427387904) (L2 L3 : List Int) : ∀ (d i k m : Nat), i + d = l.length → d < k → m < 18446744073709551616 →
    impl_Figure_set.l1 k (m : Int) l (l.length : Int) (i : Int) w h L2 L3 = some ((acc (w * (h + 1)) (l.drop i) m : Nat) : Int) := by
  intro d
  induction d with
  | zero =>
    intro i k m hi hk hm
    obtain ⟨k, rfl⟩ : ∃ q, k = q + 1 := ⟨k - 1, by omega⟩
    simp only [impl_Figure_set.l1]
    rw [if_neg (by omega), List.drop_of_length_le (by omega)]
    rfl
  | succ d ih =>
    intro i k m hi hk hm
    obtain ⟨k, rfl⟩ : ∃ q, k = q + 1 := ⟨k - 1, by omega⟩
    simp only [impl_Figure_set.l1]
    have hx := hl _ (rd_mem (l := l) (j := i) (by omega))
    obtain ⟨e1, _⟩ := grid_mul hw1 hw4 hh1 hh4
    obtain ⟨m1, m2, _⟩ := mul_bounds hw1 hw4 hh1 hh4
    rw [if_pos (by omega), if_pos (by omega), if_pos (by omega)]
    simp only [impl_Figure_grid.f, impl_grid_levels.f, Option.bind_some]
    rw [e1, w64 (w * (h + 1) + _) (by omega) (by omega), if_pos hx.1, shl_one _ hx.1 hx.2, u64_or_nat _ _ hm (pow64 (by omega)), w64 ((i : Int) + 1) (by omega) (by omega)]
    have := ih (i + 1) k (m ||| 2 ^ (w * (h + 1) + rd l (i : Int)).toNat) (by omega) (by omega) (or64 hm (pow64 (by omega)))
    rw [show ((i : Int) + 1) = ((i + 1 : Nat) : Int) by omega, this]
    rw [List.drop_eq_getElem_cons (show i < l.length by omega)]
    have e : rd l (i : Int) = l[i] := by simp [rd, show i < l.length by omega]
    rw [e]
    rfl
theorem set_l0 (w h : Int) (hw1 : 1 ≤ w) (hw4 : w ≤ 4) (hh1 : 1 ≤ h) (hh4 : h ≤ 4) (l L2 L3 : List Int) (hl : ∀ x ∈ l, 0 ≤ 0 + x ∧ 0 + x < 64) (hn : l.length ≤ 4611686018427387904) (h3 : ∀ x ∈ L3, 0 ≤ w * (h + 1) + x ∧ w * (h + 1) + x < 64) (hn3 : L3.length ≤ 4611686018427387904) : ∀ (d i k m : Nat), i + d = l.length → d + L3.length + 1 < k → m < 18446744073709551616 →
    impl_Figure_set.l0 k (m : Int) l (l.length : Int) (i : Int) w h L2 L3 = some ((acc (w * (h + 1)) L3 (acc 0 (l.drop i) m) : Nat) : Int) := by
  intro d
  induction d with
  | zero =>
    intro i k m hi hk hm
    obtain ⟨k, rfl⟩ : ∃ q, k = q + 1 := ⟨k - 1, by omega⟩
    simp only [impl_Figure_set.l0]
    rw [if_neg (by omega), List.drop_of_length_le (by omega)]
    have := set_l1 w h hw1 hw4 hh1 hh4 L3 h3 hn3 L2 L3 L3.length 0 k m (by omega) (by omega) hm
    simpa [acc] using this
  | succ d ih =>
    intro i k m hi hk hm
    obtain ⟨k, rfl⟩ : ∃ q, k = q + 1 := ⟨k - 1, by omega⟩
    simp only [impl_Figure_set.l0]
    have hx := hl _ (rd_mem (l := l) (j := i) (by omega))
    rw [Int.zero_add] at hx
    rw [if_pos (by omega), if_pos (by omega), if_pos (by omega), if_pos hx.1, shl_one _ hx.1 hx.2, u64_or_nat _ _ hm (pow64 (by omega)), w64 ((i : Int) + 1) (by omega) (by omega)]
    have := ih (i + 1) k (m ||| 2 ^ (rd l (i : Int)).toNat) (by omega) (by omega) (or64 hm (pow64 (by omega)))
    rw [show ((i : Int) + 1) = ((i + 1 : Nat) : Int) by omega, this]
    rw [List.drop_eq_getElem_cons (show i < l.length by omega)]
    have e : rd l (i : Int) = l[i] := by simp [rd, show i < l.length by omega]
    rw [e]
    simp only [acc, List.foldl_cons, Int.zero_add]
theorem set_f {w h : Int} {l2 l3 : List Int} (F : FigOK w h l2 l3) (h2 : l2.length ≤ 4611686018427387904) (h3 : l3.length ≤ 4611686018427387904) (k : Nat) (hk : l2.length + l3.length + 2 ≤ k) : impl_Figure_set.f k w h l2 l3 = some ((maskN w h l2 l3 : Nat) : Int) := by
  have := set_l0 w h F.w1 F.w4 F.h1 F.h4 l2 l2 l3 F.range2 h2 F.range3 h3 l2.length 0 k 0 (by omega) (by omega) (by decide)
  simpa [impl_Figure_set.f, maskN] using this

/-- as a rewrite that the kernel need not check by unfolding -/
theorem bnd {α β : Type} (x : α) (f : α → Option β) : (some x).bind f = f x := by
  cases (⟨()⟩ : Nonempty Unit)
  rfl
theorem count_m (m : Nat) (hm : m < 18446744073709551616) (n : Nat) (h : pcn 64 m = n) : impl_set_count.f (m : Int) = some (n : Int) := by
  have e := ones_f m hm
  rw [h] at e
  simp only [impl_set_count.f, e, Option.bind_some]

theorem few_same (w h : Int) (l2 l3 : List Int) (h2 : l2.length ≤ 4611686018427387904) (h3 : l3.length ≤ 4611686018427387904) (k : Nat) (hk : l2.length + l3.length + 5 ≤ k) : ∃ b, impl_isFew.f k w h l2 l3 = some b ∧ spec_sqFew.f k w h l2 l3 = some b ∧ (b = true ↔ FigOK w h l2 l3 ∧ w * h ≤ 9) := by
  obtain ⟨b, q, r, i⟩ := fig_same w h l2 l3 h2 h3 k hk
  unfold impl_isFew.f spec_sqFew.f
  rw [q, r]
  simp only [Option.bind_some]
  cases b with
  | false => exact ⟨false, rfl, rfl, by simpa using fun F => absurd (i.2 F) (by simp)⟩
  | true =>
    have F := i.1 rfl
    have := F.nums
    rw [w64 (w * h) (by omega) (by omega)]
    exact ⟨_, rfl, rfl, by simp [F]⟩
theorem right_same (w h : Int) (l2 l3 : List Int) (d4 : Int) (d5 : Bool) (h2 : l2.length ≤ 4611686018427387904) (h3 : l3.length ≤ 4611686018427387904) (k : Nat) (hk : l2.length + l3.length + 5 ≤ k) : ∃ b, impl_way_isRight.f k w h l2 l3 d4 d5 = some b ∧ spec_moAsked.f k w h l2 l3 d4 d5 = some b ∧ (b = true ↔ (FigOK w h l2 l3 ∧ w * h ≤ 9) ∧ 0 ≤ d4 ∧ d4 ≤ if d5 = true then 2 else 4) := by
  obtain ⟨b, q, r, i⟩ := few_same w h l2 l3 h2 h3 k hk
  unfold impl_way_isRight.f spec_moAsked.f
  rw [q, r]
  simp only [Option.bind_some, impl_within_f, spec_l1In_f]
  refine ⟨b && (decide (0 ≤ d4) && decide (d4 ≤ if d5 = true then 2 else 4)), ?_, ?_, ?_⟩
  · cases b <;> cases d5 <;> rfl
  · cases b <;> cases d5 <;> rfl
  · simp [i]
theorem count_f {w h : Int} {l2 l3 : List Int} (F : FigOK w h l2 l3) : impl_set_count.f ((maskN w h l2 l3 : Nat) : Int) = some ((l2.length + l3.length : Nat) : Int) :=
  count_m _ F.mask_lt _ F.mask_count

/-! A mask's bits and a figure's lists. -/
theorem mask_low {w h : Nat} {l2 l3 : List Int} (F : FigOK (w : Int) (h : Int) l2 l3) (j : Nat) (hj : j < w * (h + 1)) : (maskN w h l2 l3).testBit j = true ↔ (j : Int) ∈ l2 := by
  unfold maskN
  rw [acc_testBit _ _ _ _ (fun y hy => (F.range3 y hy).1), acc_testBit _ _ _ _ (fun y hy => (F.range2 y hy).1)]
  have e : (w : Int) * ((h : Int) + 1) = ((w * (h + 1) : Nat) : Int) := by push_cast; rfl
  rw [e]
  constructor
  · rintro ((q | q) | q)
    · simp at q
    · simpa using q
    · have := (F.in3 _ q).1
      omega
  · intro q
    exact .inl (.inr (by simpa using q))
theorem mask_high {w h : Nat} {l2 l3 : List Int} (F : FigOK (w : Int) (h : Int) l2 l3) (j : Nat) : (maskN w h l2 l3).testBit (w * (h + 1) + j) = true ↔ (j : Int) ∈ l3 := by
  unfold maskN
  rw [acc_testBit _ _ _ _ (fun y hy => (F.range3 y hy).1), acc_testBit _ _ _ _ (fun y hy => (F.range2 y hy).1)]
  have e : (w : Int) * ((h : Int) + 1) = ((w * (h + 1) : Nat) : Int) := by push_cast; rfl
  rw [e]
  have e2 : (((w * (h + 1) + j : Nat) : Int) - ((w * (h + 1) : Nat) : Int)) = (j : Int) := by omega
  rw [e2]
  constructor
  · rintro ((q | q) | q)
    · simp at q
    · have := (F.in2 _ q).2
      rw [e] at this
      omega
    · exact q
  · intro q
    exact .inr q

/-! A figure's bits, and a list that holds a number. -/
theorem has_l (v : Int) (l : List Int) (hn : l.length ≤ 1000000) : ∀ (d i k : Nat), i + d = l.length → d < k → spec_l1Has.l0 k v l (l.length : Int) (i : Int) = some (decide (v ∈ l.drop i)) := by
  intro d
  induction d with
  | zero =>
    intro i k hi hk
    obtain ⟨k, rfl⟩ : ∃ p, k = p + 1 := ⟨k - 1, by omega⟩
    simp only [spec_l1Has.l0]
    rw [if_neg (by omega), List.drop_of_length_le (by omega)]
    simp
  | succ d ih =>
    intro i k hi hk
    obtain ⟨k, rfl⟩ : ∃ p, k = p + 1 := ⟨k - 1, by omega⟩
    simp only [spec_l1Has.l0]
    have hlt : i < l.length := by omega
    have e : rd l (i : Int) = l[i] := by simp [rd, hlt]
    rw [if_pos (by omega), if_pos (by omega), if_pos (by omega), e, List.drop_eq_getElem_cons hlt]
    clear e
    generalize l[i] = u
    by_cases q : u = v
    · rw [if_pos q, q]; simp
    · rw [if_neg q, w64 ((i : Int) + 1) (by omega) (by omega), show ((i : Int) + 1) = ((i + 1 : Nat) : Int) by omega, ih (i + 1) k (by omega) (by omega)]
      congr 1
      rw [Bool.eq_iff_iff]
      simp [Ne.symm q]
theorem has_f (v : Int) (l : List Int) (hn : l.length ≤ 1000000) (k : Nat) (hk : l.length + 1 ≤ k) : spec_l1Has.f k l v = some (decide (v ∈ l)) := by
  have := has_l v l hn l.length 0 k (by omega) (by omega)
  simpa [spec_l1Has.f] using this

/-! The numbers of the bits that are set, in order. -/
/-- the bits of m below n -/
def bitsOf (n m : Nat) : List Int := ((List.range n).filter m.testBit).map fun j : Nat => (j : Int)
theorem mem_bitsOf {n m : Nat} {x : Int} : x ∈ bitsOf n m ↔ ∃ j : Nat, x = (j : Int) ∧ j < n ∧ m.testBit j = true := by
  unfold bitsOf
  simp only [List.mem_map, List.mem_filter, List.mem_range]
  constructor
  · rintro ⟨j, ⟨h1, h2⟩, rfl⟩; exact ⟨j, rfl, h1, h2⟩
  · rintro ⟨j, rfl, h1, h2⟩; exact ⟨j, ⟨h1, h2⟩, rfl⟩
theorem bitsOf_pairwise (n m : Nat) : (bitsOf n m).Pairwise (· < ·) := by
  unfold bitsOf
  rw [List.pairwise_map]
  exact (List.Pairwise.sublist List.filter_sublist List.pairwise_lt_range).imp (fun h => by exact_mod_cast h)
/-- two rising lists with the same elements are one -/
theorem rising_ext : ∀ {a b : List Int}, a.Pairwise (· < ·) → b.Pairwise (· < ·) → (∀ x, x ∈ a ↔ x ∈ b) → a = b
  | [], [], _, _, _ => rfl
  | [], y :: b, _, _, h => by have := (h y).2 (by simp); simp at this
  | x :: a, [], _, _, h => by have := (h x).1 (by simp); simp at this
  | x :: a, y :: b, ha, hb, h => by
    rw [List.pairwise_cons] at ha hb
    have hxy : x = y := by
      have h1 := (h x).1 (by simp)
      have h2 := (h y).2 (by simp)
      simp only [List.mem_cons] at h1 h2
      rcases h1 with h1 | h1
      · exact h1
      · rcases h2 with h2 | h2
        · exact h2.symm
        · have := hb.1 _ h1; have := ha.1 _ h2; omega
    subst hxy
    congr 1
    refine rising_ext ha.2 hb.2 (fun z => ?_)
    have := h z
    simp only [List.mem_cons] at this
    constructor
    · intro hz
      rcases this.1 (.inr hz) with rfl | h1
      · exact absurd (ha.1 _ hz) (by omega)
      · exact h1
    · intro hz
      rcases this.2 (.inr hz) with rfl | h1
      · exact absurd (hb.1 _ hz) (by omega)
      · exact h1

/-! The listed bits of a set. -/
theorem low_bit {x : Nat} (h0 : x ≠ 0) (h : x < 18446744073709551616) : x.testBit (Lib.ctz 64 x) = true ∧ Lib.ctz 64 x < 64 ∧ (∀ j, j < Lib.ctz 64 x → x.testBit j = false) ∧ ∀ j, (x &&& (x - 1)).testBit j = (x.testBit j && decide (j ≠ Lib.ctz 64 x)) := by
  obtain ⟨m, hm, hk⟩ := Lib.ctzFrom_spec 64 x (by omega) (by simpa using h)
  have e : Lib.ctz 64 x = Lib.ctzFrom 64 x := by simp [Lib.ctz, h0]
  rw [e]
  generalize Lib.ctzFrom 64 x = c at *
  have tb : ∀ j, x.testBit j = if j < c then false else (2 * m + 1).testBit (j - c) := by
    intro j
    rw [hm, Nat.testBit_two_pow_mul]
    by_cases q : j < c
    · simp [q]; intro h; omega
    · simp [q, Nat.not_lt.1 q]
  have tp : ∀ j, (x - 1).testBit j = if j < c then true else (2 * m).testBit (j - c) := by
    intro j
    have hp : 0 < 2 ^ c := Nat.two_pow_pos c
    have e1 : x - 1 = 2 ^ c * (2 * m) + (2 ^ c - 1) := by
      rw [hm, Nat.mul_add, Nat.mul_one]; omega
    rw [e1, Nat.testBit_two_pow_mul_add _ (by omega)]
    by_cases q : j < c
    · simp [q, Nat.testBit_two_pow_sub_one]
    · simp [q]
  have odd0 : ∀ i, (2 * m).testBit i = ((2 * m + 1).testBit i && decide (i ≠ 0)) := by
    intro i
    cases i with
    | zero => simp [Nat.testBit_zero]
    | succ i => rw [Nat.testBit_succ, Nat.testBit_succ]; simp; congr 1; omega
  refine ⟨?_, hk, fun j hj => by rw [tb, if_pos hj], fun j => ?_⟩
  · rw [tb, if_neg (by omega), Nat.sub_self, Nat.testBit_zero]; simp
  · rw [Nat.testBit_and, tb, tp]
    by_cases q : j < c
    · simp [q]
    · simp only [if_neg q]
      rw [odd0]
      by_cases e2 : j = c
      · subst e2; simp
      · have : j - c ≠ 0 := by omega
        simp [this, e2]
theorem bitsOf_step {x : Nat} (h0 : x ≠ 0) (h : x < 18446744073709551616) : bitsOf 64 x = ((Lib.ctz 64 x : Nat) : Int) :: bitsOf 64 (x &&& (x - 1)) := by
  obtain ⟨h1, h2, h3, h4⟩ := low_bit h0 h
  refine rising_ext (bitsOf_pairwise _ _) ?_ (fun y => ?_)
  · rw [List.pairwise_cons]
    refine ⟨fun y hy => ?_, bitsOf_pairwise _ _⟩
    obtain ⟨j, rfl, hj, hb⟩ := mem_bitsOf.1 hy
    rw [h4] at hb
    simp only [Bool.and_eq_true, decide_eq_true_eq] at hb
    rcases Nat.lt_trichotomy j (Lib.ctz 64 x) with q | q | q
    · rw [h3 j q] at hb; simp at hb
    · exact absurd q hb.2
    · exact_mod_cast q
  · rw [List.mem_cons, mem_bitsOf, mem_bitsOf]
    constructor
    · rintro ⟨j, rfl, hj, hb⟩
      by_cases q : j = Lib.ctz 64 x
      · exact .inl (by rw [q])
      · exact .inr ⟨j, rfl, hj, by rw [h4, hb]; simp [q]⟩
    · rintro (rfl | ⟨j, rfl, hj, hb⟩)
      · exact ⟨_, rfl, h2, h1⟩
      · rw [h4] at hb
        simp only [Bool.and_eq_true] at hb
        exact ⟨j, rfl, hj, hb.1⟩
theorem bitsOf_zero (n : Nat) : bitsOf n 0 = [] := by
  unfold bitsOf
  simp
theorem bitsOf_length (n m : Nat) : (bitsOf n m).length ≤ n := by
  unfold bitsOf
  rw [List.length_map]
  exact Nat.le_trans (List.length_filter_le _ _) (by simp)
theorem tz_val (x : Nat) (hx : x < 18446744073709551616) : bits_TrailingZeros64.f (x : Int) = some ((Lib.ctz 64 x : Nat) : Int) := by
  unfold bits_TrailingZeros64.f
  rw [if_pos ⟨Int.natCast_nonneg _, Int.ofNat_lt.mpr hx⟩, Int.toNat_natCast]
theorem listed_l : ∀ (d x : Nat), (bitsOf 64 x).length = d → x < 18446744073709551616 → ∀ (k : Nat) (o : List Int), d < k → o.length + d ≤ 1000 → impl_set_listed.l0 k (x : Int) o = some (o ++ bitsOf 64 x) := by
  intro d
  induction d with
  | zero =>
    intro x hd hx k o hk ho
    obtain ⟨k, rfl⟩ : ∃ q, k = q + 1 := ⟨k - 1, by omega⟩
    have hb := List.eq_nil_of_length_eq_zero hd
    have h0 : x = 0 := Classical.byContradiction fun h => by rw [bitsOf_step h hx] at hb; simp at hb
    subst h0
    simp only [impl_set_listed.l0]
    rw [if_neg (by omega), bitsOf_zero, List.append_nil]
  | succ d ih =>
    intro x hd hx k o hk ho
    obtain ⟨k, rfl⟩ : ∃ q, k = q + 1 := ⟨k - 1, by omega⟩
    have h0 : x ≠ 0 := fun h => by subst h; rw [bitsOf_zero] at hd; simp at hd
    simp only [impl_set_listed.l0]
    rw [if_pos (by omega), tz_val x hx, Option.bind_some, if_pos (by omega)]
    have e1 : IntKind.u64.wrap ((x : Int) - 1) = ((x - 1 : Nat) : Int) := by rw [IntKind.wrap_u64]; omega
    rw [e1, u64_and_nat x (x - 1) hx (by omega)]
    have hs := bitsOf_step h0 hx
    rw [hs] at hd
    have := ih (x &&& (x - 1)) (by simpa using hd) (Nat.lt_of_le_of_lt Nat.and_le_left hx) k (o ++ [((Lib.ctz 64 x : Nat) : Int)]) (by omega) (by simp; omega)
    rw [this, hs]
    simp
theorem listed_f (x : Nat) (hx : x < 18446744073709551616) (k : Nat) (hk : 65 ≤ k) : impl_set_listed.f k (x : Int) = some (bitsOf 64 x) := by
  have := bitsOf_length 64 x
  have := listed_l _ x rfl hx k [] (by omega) (by simp; omega)
  simpa [impl_set_listed.f] using this

/-! The places of a set's bits. -/
theorem pow62 {x : Nat} (h : x < 62) : 2 ^ x < 4611686018427387904 := Nat.lt_of_lt_of_le (Nat.pow_lt_pow_right (by decide) h) (by decide)
theorem i64_wr : ∀ n : Int, 0 ≤ n → n < 2 ^ 63 → IntKind.i64.wrap n = n := fun n h0 h1 => by rw [IntKind.wrap_i64]; omega
theorem i64_and_nat {a b : Nat} (ha : a < 4611686018427387904) (hb : b < 4611686018427387904) : Go.bits .and .i64 (a : Int) (b : Int) = ((a &&& b : Nat) : Int) :=
  (bits_nat .i64 63 (by decide) i64_wr a b (by omega) (by omega)).1
theorem i64_or_nat {a b : Nat} (ha : a < 4611686018427387904) (hb : b < 4611686018427387904) : Go.bits .or .i64 (a : Int) (b : Int) = ((a ||| b : Nat) : Int) :=
  (bits_nat .i64 63 (by decide) i64_wr a b (by omega) (by omega)).2
theorem shl_i64 (x : Nat) (h : x < 62) : shl .i64 1 (x : Int) = ((2 ^ x : Nat) : Int) := by
  unfold shl
  have e : min (x : Int).toNat (IntKind.i64.bits) = x := by rw [Int.toNat_natCast]; exact Nat.min_eq_left (by show x ≤ 64; omega)
  have := pow62 h
  have e2 : ((2 : Int) ^ x) = ((2 ^ x : Nat) : Int) := by push_cast; rfl
  rw [e, Int.one_mul, e2]
  exact i64_wr _ (Int.natCast_nonneg _) (Int.lt_trans (Int.ofNat_lt.mpr this) (by decide))
theorem and_bit (m j : Nat) (hm : m < 4611686018427387904) (hj : j < 62) : (Go.bits .and .i64 (m : Int) ((2 ^ j : Nat) : Int) = 0) ↔ m.testBit j = false := by
  rw [i64_and_nat hm (pow62 hj), Int.natCast_eq_zero]
  constructor
  · intro e
    have h := congrArg (fun z => Nat.testBit z j) e
    simpa [Nat.testBit_and, Nat.testBit_two_pow] using h
  · intro hb
    apply Nat.eq_of_testBit_eq
    intro i
    rw [Nat.testBit_and, Nat.testBit_two_pow, Nat.zero_testBit]
    by_cases q : j = i
    · subst q; simp [hb]
    · simp [q]
/-- the places from i on whose bits are set -/
def segFrom (off m i d : Nat) : List Int := ((List.range' i d).filter fun j => m.testBit (off + j)).map fun j : Nat => (j : Int)
theorem segFrom_zero (off m i : Nat) : segFrom off m i 0 = [] := rfl
theorem segFrom_succ (off m i d : Nat) : segFrom off m i (d + 1) = if m.testBit (off + i) = true then (i : Int) :: segFrom off m (i + 1) d else segFrom off m (i + 1) d := by
  unfold segFrom
  rw [List.range'_succ, List.filter_cons]
  split <;> rfl
theorem segFrom_length (off m i d : Nat) : (segFrom off m i d).length ≤ d := by
  unfold segFrom
  rw [List.length_map]
  exact Nat.le_trans (List.length_filter_le _ _) (by simp)
theorem mem_seg {off m i d : Nat} {x : Int} : x ∈ segFrom off m i d ↔ ∃ j : Nat, x = (j : Int) ∧ i ≤ j ∧ j < i + d ∧ m.testBit (off + j) = true := by
  unfold segFrom
  simp only [List.mem_map, List.mem_filter, List.mem_range'_1]
  constructor
  · rintro ⟨j, ⟨⟨h1, h2⟩, h3⟩, rfl⟩; exact ⟨j, rfl, h1, h2, h3⟩
  · rintro ⟨j, rfl, h1, h2, h3⟩; exact ⟨j, ⟨⟨h1, h2⟩, h3⟩, rfl⟩
theorem seg_pairwise (off m i d : Nat) : (segFrom off m i d).Pairwise (· < ·) := by
  unfold segFrom
  rw [List.pairwise_map]
  refine (List.Pairwise.filter _ (List.pairwise_lt_range' (s := i) (n := d))).imp ?_
  intro a b h
  exact Int.ofNat_lt.mpr h

/-! The program's figure of a set. -/
/-- the program's lists of a set are the reference's -/
theorem low_list (m n : Nat) (hn : n ≤ 20) (hm : m < 4611686018427387904) : bitsOf 64 (m &&& (2 ^ n - 1)) = segFrom 0 m 0 n := by
  refine rising_ext (bitsOf_pairwise _ _) (seg_pairwise _ _ _ _) (fun x => ?_)
  rw [mem_bitsOf, mem_seg]
  constructor
  · rintro ⟨j, rfl, h1, h2⟩
    rw [Nat.testBit_and, Nat.testBit_two_pow_sub_one] at h2
    simp only [Bool.and_eq_true, decide_eq_true_eq] at h2
    exact ⟨j, rfl, Nat.zero_le _, by omega, by rw [Nat.zero_add]; exact h2.1⟩
  · rintro ⟨j, rfl, _, h1, h2⟩
    refine ⟨j, rfl, by omega, ?_⟩
    rw [Nat.zero_add] at h2
    rw [Nat.testBit_and, Nat.testBit_two_pow_sub_one, h2]
    simpa using h1
theorem high_list (m n d : Nat) (hn : n ≤ 20) (hd : d ≤ 20) (hm : m < 2 ^ (n + d)) : bitsOf 64 (m / 2 ^ n) = segFrom n m 0 d := by
  refine rising_ext (bitsOf_pairwise _ _) (seg_pairwise _ _ _ _) (fun x => ?_)
  rw [mem_bitsOf, mem_seg]
  constructor
  · rintro ⟨j, rfl, h1, h2⟩
    rw [Nat.testBit_div_two_pow] at h2
    refine ⟨j, rfl, Nat.zero_le _, ?_, by rw [Nat.add_comm]; exact h2⟩
    refine Classical.byContradiction fun q => ?_
    rw [Nat.testBit_lt_two_pow (Nat.lt_of_lt_of_le hm (Nat.pow_le_pow_right (by decide) (by omega)))] at h2
    cases h2
  · rintro ⟨j, rfl, _, h1, h2⟩
    exact ⟨j, rfl, by omega, by rw [Nat.testBit_div_two_pow, Nat.add_comm]; exact h2⟩
theorem shr_nat (m n : Nat) (hn : n ≤ 20) : shr .u64 (m : Int) (n : Int) = ((m / 2 ^ n : Nat) : Int) := by
  unfold shr
  have e : min (n : Int).toNat (IntKind.u64.bits) = n := by rw [Int.toNat_natCast]; exact Nat.min_eq_left (by show n ≤ 64; omega)
  rw [e]
  push_cast
  rfl
theorem fig_f (w h : Int) (n2 n3 : Nat) (h2 : wrap64 (w * wrap64 (h + 1)) = (n2 : Int)) (hn2 : n2 ≤ 20) (hn3 : n3 ≤ 20) (m : Nat) (hm : m < 4611686018427387904) (hm2 : m < 2 ^ (n2 + n3)) (k : Nat) (hk : 65 ≤ k) :
    impl_grid_figure.f k w h (m : Int) = some (w, h, segFrom 0 m 0 n2, segFrom n2 m 0 n3) := by
  have hp : 2 ^ n2 < 4611686018427387904 := pow62 (by omega)
  have hp0 : 0 < 2 ^ n2 := Nat.two_pow_pos n2
  have e1 : IntKind.u64.wrap ((shl .u64 1 (n2 : Int)) - 1) = ((2 ^ n2 - 1 : Nat) : Int) := by
    rw [shl_one _ (by omega) (by omega), Int.toNat_natCast, IntKind.wrap_u64, ← Int.natCast_one, ← Int.natCast_sub hp0]
    exact Int.emod_eq_of_lt (Int.natCast_nonneg _) (show ((2 ^ n2 - 1 : Nat) : Int) < ((18446744073709551616 : Nat) : Int) from Int.ofNat_lt.mpr (by omega))
  unfold impl_grid_figure.f impl_grid_levels.f
  rw [h2, Option.bind_some, if_pos (Int.natCast_nonneg _), e1, u64_and_nat m (2 ^ n2 - 1) (by omega) (by omega), listed_f _ (Nat.lt_of_le_of_lt Nat.and_le_left (by omega)) k hk, Option.bind_some, Option.bind_some, if_pos (Int.natCast_nonneg _), shr_nat m n2 hn2, listed_f _ (Nat.lt_of_le_of_lt (Nat.div_le_self _ _) (by omega)) k hk, Option.bind_some, low_list m n2 hn2 hm, high_list m n2 n3 hn2 hn3 hm2]

/-! A figure's bits laid out again. -/
theorem FigOK.small {w h : Int} {l2 l3 : List Int} (F : FigOK w h l2 l3) : (∀ x ∈ l2, 0 ≤ x ∧ x ≤ 20) ∧ (∀ x ∈ l3, 0 ≤ x ∧ x ≤ 20) ∧ l2.length ≤ 20 ∧ l3.length ≤ 20 := by
  obtain ⟨a, b, c, d, _, _⟩ := F.nums
  refine ⟨fun x hx => ?_, fun x hx => ?_, ?_, ?_⟩
  · have := F.in2 x hx; omega
  · have := F.in3 x hx; omega
  · have := rise_length F.r2 F.in2 (by omega); omega
  · have := rise_length F.r3 F.in3 (by omega); omega
/-- a figure's grid in numbers -/
theorem FigOK.grid {w h : Int} {l2 l3 : List Int} (F : FigOK w h l2 l3) : ∃ wn hn : Nat, w = (wn : Int) ∧ h = (hn : Int) ∧ 1 ≤ wn ∧ wn ≤ 4 ∧ 1 ≤ hn ∧ hn ≤ 4 :=
  ⟨w.toNat, h.toNat, by have := F.w1; omega, by have := F.h1; omega, by have := F.w1; omega, by have := F.w4; omega, by have := F.h1; omega, by have := F.h4; omega⟩
theorem acc_below {base : Int} {B : Nat} : ∀ (l : List Int) (m : Nat), (∀ x ∈ l, 0 ≤ base + x ∧ base + x < B) → m < 2 ^ B → acc base l m < 2 ^ B
  | [], m, _, hm => hm
  | x :: l, m, hl, hm => by
    have hx := hl x List.mem_cons_self
    exact acc_below l _ (fun y hy => hl y (List.mem_cons_of_mem _ hy)) (Nat.or_lt_two_pow hm (Nat.pow_lt_pow_right (by decide) (by omega)))
section
variable {w h : Nat} (w1 : 1 ≤ w) (w4 : w ≤ 4) (h1 : 1 ≤ h) (h4 : h ≤ 4)
include w1 w4 h1 h4
theorem nums_nat : w * (h + 1) ≤ 20 ∧ h * (w + 1) ≤ 20 ∧ 2 ≤ w * (h + 1) ∧ 2 ≤ h * (w + 1) ∧ wrap64 ((w : Int) * wrap64 ((h : Int) + 1)) = ((w * (h + 1) : Nat) : Int) ∧ wrap64 (wrap64 ((w : Int) + 1) * (h : Int)) = ((h * (w + 1) : Nat) : Int) := by
  obtain ⟨e1, e2, e3, _⟩ := grid_mul (w := (w : Int)) (h := (h : Int)) (by omega) (by omega) (by omega) (by omega)
  obtain ⟨m1, m2, m3, m4, _⟩ := mul_bounds (w := (w : Int)) (h := (h : Int)) (by omega) (by omega) (by omega) (by omega)
  have c1 : (w : Int) * ((h : Int) + 1) = ((w * (h + 1) : Nat) : Int) := by push_cast; rfl
  have c2 : (h : Int) * ((w : Int) + 1) = ((h * (w + 1) : Nat) : Int) := by push_cast; rfl
  rw [e1, e3, c1, c2]
  rw [c1] at m1 m2
  rw [c2] at m3 m4
  exact ⟨by omega, by omega, by omega, by omega, rfl, rfl⟩
theorem mask_small {l2 l3 : List Int} (F : FigOK (w : Int) (h : Int) l2 l3) : maskN w h l2 l3 < 2 ^ (w * (h + 1) + h * (w + 1)) := by
  obtain ⟨b1, b2, b3, b4, _⟩ := nums_nat w1 w4 h1 h4
  have c1 : (w : Int) * ((h : Int) + 1) = ((w * (h + 1) : Nat) : Int) := by push_cast; rfl
  have c2 : (h : Int) * ((w : Int) + 1) = ((h * (w + 1) : Nat) : Int) := by push_cast; rfl
  unfold maskN
  rw [c1]
  refine acc_below _ _ (fun x hx => ?_) (acc_below _ _ (fun x hx => ?_) (Nat.two_pow_pos _))
  · have := F.in3 x hx; rw [c2] at this; omega
  · have := F.in2 x hx; rw [c1] at this; omega
theorem mask_62 {l2 l3 : List Int} (F : FigOK (w : Int) (h : Int) l2 l3) : maskN w h l2 l3 < 4611686018427387904 := by
  obtain ⟨b1, b2, b3, b4, _⟩ := nums_nat w1 w4 h1 h4
  exact Nat.lt_trans (mask_small w1 w4 h1 h4 F) (pow62 (by omega))
/-- the figure of a set is a figure, and its bits are the set's -/
theorem seg_fig (m : Nat) : FigOK (w : Int) (h : Int) (segFrom 0 m 0 (w * (h + 1))) (segFrom (w * (h + 1)) m 0 (h * (w + 1))) := by
  have c1 : (w : Int) * ((h : Int) + 1) = ((w * (h + 1) : Nat) : Int) := by push_cast; rfl
  have c2 : (h : Int) * ((w : Int) + 1) = ((h * (w + 1) : Nat) : Int) := by push_cast; rfl
  refine ⟨by omega, by omega, by omega, by omega, pairwise_rise (seg_pairwise _ _ _ _), pairwise_rise (seg_pairwise _ _ _ _), fun x hx => ?_, fun x hx => ?_⟩
  · obtain ⟨j, rfl, _, q, _⟩ := mem_seg.1 hx; rw [c1]; omega
  · obtain ⟨j, rfl, _, q, _⟩ := mem_seg.1 hx; rw [c2]; omega
theorem seg_mask (m : Nat) (hm : m < 2 ^ (w * (h + 1) + h * (w + 1))) : maskN w h (segFrom 0 m 0 (w * (h + 1))) (segFrom (w * (h + 1)) m 0 (h * (w + 1))) = m := by
  have F := seg_fig w1 w4 h1 h4 m
  apply Nat.eq_of_testBit_eq
  intro j
  rw [Bool.eq_iff_iff]
  by_cases q : j < w * (h + 1)
  · rw [mask_low F j q, mem_seg]
    constructor
    · rintro ⟨i, e, _, _, hb⟩
      obtain rfl : j = i := by omega
      rwa [Nat.zero_add] at hb
    · intro hb; exact ⟨j, rfl, Nat.zero_le _, by omega, by rwa [Nat.zero_add]⟩
  · obtain ⟨i, rfl⟩ : ∃ i, j = w * (h + 1) + i := ⟨j - w * (h + 1), by omega⟩
    rw [mask_high F i, mem_seg]
    constructor
    · rintro ⟨i', e, _, _, hb⟩
      obtain rfl : i = i' := by omega
      exact hb
    · intro hb
      refine ⟨i, rfl, Nat.zero_le _, ?_, hb⟩
      refine Classical.byContradiction fun hq => ?_
      rw [Nat.testBit_lt_two_pow (Nat.lt_of_lt_of_le hm (Nat.pow_le_pow_right (by decide) (by omega)))] at hb
      cases hb
end
/-- a figure is the figure of its bits -/
theorem mask_seg {w h : Nat} {l2 l3 : List Int} (F : FigOK (w : Int) (h : Int) l2 l3) : segFrom 0 (maskN w h l2 l3) 0 (w * (h + 1)) = l2 ∧ segFrom (w * (h + 1)) (maskN w h l2 l3) 0 (h * (w + 1)) = l3 := by
  have c1 : (w : Int) * ((h : Int) + 1) = ((w * (h + 1) : Nat) : Int) := by push_cast; rfl
  have c2 : (h : Int) * ((w : Int) + 1) = ((h * (w + 1) : Nat) : Int) := by push_cast; rfl
  constructor
  · refine rising_ext (seg_pairwise _ _ _ _) (rise_pairwise F.r2) (fun x => ?_)
    rw [mem_seg]
    constructor
    · rintro ⟨j, rfl, _, q, hb⟩
      rw [Nat.zero_add] at hb q
      exact (mask_low F j q).1 hb
    · intro hx
      have := F.in2 x hx
      rw [c1] at this
      obtain ⟨j, rfl⟩ := Int.eq_ofNat_of_zero_le this.1
      exact ⟨j, rfl, Nat.zero_le _, by omega, by rw [Nat.zero_add]; exact (mask_low F j (by omega)).2 hx⟩
  · refine rising_ext (seg_pairwise _ _ _ _) (rise_pairwise F.r3) (fun x => ?_)
    rw [mem_seg]
    constructor
    · rintro ⟨j, rfl, _, q, hb⟩
      exact (mask_high F j).1 hb
    · intro hx
      have := F.in3 x hx
      rw [c2] at this
      obtain ⟨j, rfl⟩ := Int.eq_ofNat_of_zero_le this.1
      exact ⟨j, rfl, Nat.zero_le _, by omega, (mask_high F j).2 hx⟩

/-! The reference's matches that are asked for and laid. -/
theorem edge_up {w h : Nat} (w1 : 1 ≤ w) (w4 : w ≤ 4) (h1 : 1 ≤ h) (h4 : h ≤ 4) (l2 l3 : List Int) {x y : Nat} (hx : x ≤ w) (hy : y < h) : spec_fiEdge.f w h l2 l3 true x y = some (((y * (w + 1) + x : Nat) : Int), true) := by
  have hb : y * (w + 1) ≤ 15 := Nat.mul_le_mul (show y ≤ 3 by omega) (show w + 1 ≤ 5 by omega)
  unfold spec_fiEdge.f
  rw [if_pos rfl]
  have e1 : wrap64 ((w : Int) + 1) = ((w + 1 : Nat) : Int) := by rw [w64 _ (by omega) (by omega)]; omega
  rw [e1]
  clear e1
  have e2 : wrap64 ((h : Int) - 1) = ((h - 1 : Nat) : Int) := by rw [w64 _ (by omega) (by omega)]; omega
  rw [e2]
  clear e2
  have e3 : (y : Int) * ((w + 1 : Nat) : Int) = ((y * (w + 1) : Nat) : Int) := by push_cast; rfl
  rw [e3, w64 ((y * (w + 1) : Nat) : Int) (by omega) (by omega), w64 _ (by omega) (by omega), spec_l1In_f, spec_l1In_f, Option.bind_some, if_pos (by simp; omega), Option.bind_some]
  congr 2
  simp
  omega
theorem edge_lv {w h : Nat} (w1 : 1 ≤ w) (w4 : w ≤ 4) (h1 : 1 ≤ h) (h4 : h ≤ 4) (l2 l3 : List Int) {x y : Nat} (hx : x < w) (hy : y ≤ h) : spec_fiEdge.f w h l2 l3 false x y = some (((y * w + x : Nat) : Int), true) := by
  have hb : y * w ≤ 16 := Nat.mul_le_mul (show y ≤ 4 by omega) w4
  unfold spec_fiEdge.f
  rw [if_neg (by simp)]
  have e2 : wrap64 ((w : Int) - 1) = ((w - 1 : Nat) : Int) := by rw [w64 _ (by omega) (by omega)]; omega
  rw [e2]
  clear e2
  have e3 : (y : Int) * (w : Int) = ((y * w : Nat) : Int) := by push_cast; rfl
  rw [e3, w64 ((y * w : Nat) : Int) (by omega) (by omega), w64 _ (by omega) (by omega), spec_l1In_f, spec_l1In_f, Option.bind_some, if_pos (by simp; omega), Option.bind_some]
  congr 2
  simp
  omega
section
variable {w h : Nat} (w1 : 1 ≤ w) (w4 : w ≤ 4) (h1 : 1 ≤ h) (h4 : h ≤ 4) {l2 l3 : List Int} (F : FigOK (w : Int) (h : Int) l2 l3)
include w1 w4 h1 h4 F
theorem has_up (k : Nat) (hk : 31 ≤ k) {x y : Nat} (hx : x ≤ w) (hy : y < h) : spec_fiHas.f k w h l2 l3 true x y = some ((maskN w h l2 l3).testBit (w * (h + 1) + (y * (w + 1) + x))) := by
  obtain ⟨_, _, hs2, hs3⟩ := F.small
  unfold spec_fiHas.f
  rw [edge_up w1 w4 h1 h4 _ _ hx hy, Option.bind_some, if_pos rfl, has_f _ _ (by omega) k (by omega), Option.bind_some]
  congr 1
  rw [Bool.eq_iff_iff, mask_high F]
  simp only [decide_eq_true_eq]
theorem has_lv (k : Nat) (hk : 31 ≤ k) {x y : Nat} (hx : x < w) (hy : y ≤ h) : spec_fiHas.f k w h l2 l3 false x y = some ((maskN w h l2 l3).testBit (y * w + x)) := by
  obtain ⟨_, _, hs2, hs3⟩ := F.small
  have hlt : y * w + x < w * (h + 1) := by
    have : y * w ≤ h * w := Nat.mul_le_mul_right _ hy
    rw [Nat.mul_comm h w] at this
    rw [Nat.mul_add, Nat.mul_one]; omega
  unfold spec_fiHas.f
  rw [edge_lv w1 w4 h1 h4 _ _ hx hy, Option.bind_some, if_neg (by simp), has_f _ _ (by omega) k (by omega), Option.bind_some]
  congr 1
  rw [Bool.eq_iff_iff, mask_low F _ hlt]
  simp only [decide_eq_true_eq]
end
theorem pw_rd {l : List Int} (hp : l.Pairwise (· < ·)) {i j : Nat} (hij : i < j) (hj : j < l.length) : rd l (i : Int) < rd l (j : Int) := by
  have e1 : rd l (i : Int) = l[i] := by simp [rd, show i < l.length by omega]
  have e2 : rd l (j : Int) = l[j] := by simp [rd, hj]
  rw [e1, e2]
  exact List.pairwise_iff_getElem.1 hp i j (by omega) hj hij
theorem ins_pw {l : List Int} (hp : l.Pairwise (· < ·)) (v : Int) (i : Nat) (hi : i ≤ l.length) (hlo : ∀ j : Nat, j < i → rd l (j : Int) < v) (hhi : i < l.length → v < rd l (i : Int)) : (l.take i ++ [v] ++ l.drop i).Pairwise (· < ·) := by
  have hlt : ∀ x ∈ l.take i, x < v := by
    intro x hx
    obtain ⟨j, hj, rfl⟩ := List.getElem_of_mem hx
    rw [List.length_take] at hj
    have := hlo j (by omega)
    have e : rd l (j : Int) = l[j]'(by omega) := by simp [rd, show j < l.length by omega]
    rw [e] at this
    simpa using this
  have hgt : ∀ x ∈ l.drop i, v < x := by
    intro x hx
    obtain ⟨j, hj, rfl⟩ := List.getElem_of_mem hx
    rw [List.length_drop] at hj
    have h0 := hhi (by omega)
    have e : rd l (((i + j : Nat)) : Int) = l[i + j]'(by omega) := by unfold rd; rw [Int.toNat_natCast]; simp [show i + j < l.length by omega]
    have h2 : v < l[i + j]'(by omega) := by
      by_cases q : j = 0
      · subst q
        have e0 : rd l (i : Int) = l[i]'(by omega) := by simp [rd, show i < l.length by omega]
        rw [e0] at h0
        simpa using h0
      · have := pw_rd hp (show i < i + j by omega) (by omega)
        rw [e] at this
        omega
    simpa using h2
  rw [List.append_assoc, List.pairwise_append]
  refine ⟨hp.sublist (List.take_sublist _ _), ?_, fun a ha b hb => ?_⟩
  · rw [List.singleton_append, List.pairwise_cons]
    exact ⟨hgt, hp.sublist (List.drop_sublist _ _)⟩
  · rw [List.singleton_append, List.mem_cons] at hb
    rcases hb with rfl | hb
    · exact hlt a ha
    · have := hlt a ha; have := hgt b hb; omega
theorem ins_mem {l : List Int} (v : Int) (i : Nat) (x : Int) : x ∈ l.take i ++ [v] ++ l.drop i ↔ x ∈ l ∨ x = v := by
  have : x ∈ l ↔ x ∈ l.take i ∨ x ∈ l.drop i := by rw [← List.mem_append, List.take_append_drop]
  rw [this]
  simp only [List.mem_append, List.mem_singleton]
  constructor
  · rintro ((a | a) | a)
    · exact .inl (.inl a)
    · exact .inr a
    · exact .inl (.inr a)
  · rintro ((a | a) | a)
    · exact .inl (.inl a)
    · exact .inr a
    · exact .inl (.inr a)
theorem put_l (l : List Int) (v : Int) (hn : l.length ≤ 1000) (hp : l.Pairwise (· < ·)) (hv : v ∉ l) : ∀ (d i k : Nat), i + d = l.length → d < k → (∀ j : Nat, j < i → rd l (j : Int) < v) →
    ∃ r, spec_l1Put.l0 k l v (i : Int) = some r ∧ r.Pairwise (· < ·) ∧ ∀ x, x ∈ r ↔ x ∈ l ∨ x = v := by
  intro d
  induction d with
  | zero =>
    intro i k hi hk hlo
    obtain ⟨k, rfl⟩ : ∃ p, k = p + 1 := ⟨k - 1, by omega⟩
    obtain rfl : i = l.length := by omega
    simp only [spec_l1Put.l0]
    rw [if_neg (by omega), Option.bind_some, if_pos (by omega), if_pos (by omega), Option.bind_some, Int.toNat_natCast, if_pos (by simp; omega), Option.bind_some, List.nil_append, if_pos (by simp; omega), Option.bind_some, Option.bind_some, if_pos (by simp; omega)]
    exact ⟨_, rfl, ins_pw hp v _ (Nat.le_refl _) hlo (fun q => absurd q (Nat.lt_irrefl _)), ins_mem v _⟩
  | succ d ih =>
    intro i k hi hk hlo
    obtain ⟨k, rfl⟩ : ∃ p, k = p + 1 := ⟨k - 1, by omega⟩
    simp only [spec_l1Put.l0]
    rw [if_pos (by omega), if_pos (by omega)]
    have hne : rd l (i : Int) ≠ v := fun e => hv (by rw [← e]; exact rd_mem (by omega))
    by_cases q : rd l (i : Int) < v
    · rw [if_pos q, w64 ((i : Int) + 1) (by omega) (by omega), show ((i : Int) + 1) = ((i + 1 : Nat) : Int) by omega]
      refine ih (i + 1) k (by omega) (by omega) (fun j hj => ?_)
      by_cases e : j = i
      · subst e; exact q
      · exact hlo j (by omega)
    · rw [if_neg q, if_neg hne, Option.bind_some, if_pos (by omega), Option.bind_some, Int.toNat_natCast, if_pos (by simp; omega), Option.bind_some, List.nil_append, if_pos (by simp; omega), Option.bind_some, Option.bind_some, if_pos (by simp; omega)]
      exact ⟨_, rfl, ins_pw hp v _ (by omega) hlo (fun _ => by omega), ins_mem v _⟩
theorem put_f (l : List Int) (v : Int) (hn : l.length ≤ 1000) (hp : l.Pairwise (· < ·)) (hv : v ∉ l) (k : Nat) (hk : l.length + 1 ≤ k) : ∃ r, spec_l1Put.f k l v = some r ∧ r.Pairwise (· < ·) ∧ ∀ x, x ∈ r ↔ x ∈ l ∨ x = v :=
  put_l l v hn hp hv l.length 0 k (by omega) (by omega) (fun j hj => by omega)
theorem or_has {m e : Nat} (h : m.testBit e = true) : m ||| 2 ^ e = m := by
  apply Nat.eq_of_testBit_eq
  intro i
  rw [Nat.testBit_or, Nat.testBit_two_pow]
  by_cases q : e = i
  · subst q; simp [h]
  · simp [q]
theorem own_f (w h : Int) (l2 l3 : List Int) (h2 : l2.length ≤ 1000) (h3 : l3.length ≤ 1000) : spec_fiOwn.f w h l2 l3 = some (w, h, l2, l3) := by
  unfold spec_fiOwn.f spec_l1Own.f
  rw [Option.bind_some, if_pos (by simp; omega), Option.bind_some, Option.bind_some, if_pos (by simp; omega), Option.bind_some]
  rfl
/-- the figure of a set, as the reference holds it -/
def segs (w h m : Nat) : List Int × List Int := (segFrom 0 m 0 (w * (h + 1)), segFrom (w * (h + 1)) m 0 (h * (w + 1)))
section
variable {w h : Nat} (w1 : 1 ≤ w) (w4 : w ≤ 4) (h1 : 1 ≤ h) (h4 : h ≤ 4) {m : Nat} (hm : m < 2 ^ (w * (h + 1) + h * (w + 1)))
include w1 w4 h1 h4 hm
theorem put_up (k : Nat) (hk : 60 ≤ k) {x y : Nat} (hx : x ≤ w) (hy : y < h) : spec_fiPut.f k w h (segs w h m).1 (segs w h m).2 true x y = some ((w : Int), (h : Int), (segs w h (m ||| 2 ^ (w * (h + 1) + (y * (w + 1) + x)))).1, (segs w h (m ||| 2 ^ (w * (h + 1) + (y * (w + 1) + x)))).2) := by
  have F := seg_fig w1 w4 h1 h4 m
  obtain ⟨_, _, hs2, hs3⟩ := F.small
  have hlt : y * (w + 1) + x < h * (w + 1) := by
    have : (y + 1) * (w + 1) ≤ h * (w + 1) := Nat.mul_le_mul_right _ hy
    rw [Nat.add_mul, Nat.one_mul] at this; omega
  unfold spec_fiPut.f segs
  dsimp only
  rw [own_f _ _ _ _ (by omega) (by omega), Option.bind_some, edge_up w1 w4 h1 h4 _ _ hx hy, Option.bind_some, has_up w1 w4 h1 h4 F k (by omega) hx hy, Option.bind_some, seg_mask w1 w4 h1 h4 m hm]
  by_cases hb : m.testBit (w * (h + 1) + (y * (w + 1) + x)) = true
  · rw [if_pos hb, or_has hb]
  · rw [if_neg hb, if_pos rfl]
    obtain ⟨r, r1, r2, r3⟩ := put_f (segFrom (w * (h + 1)) m 0 (h * (w + 1))) ((y * (w + 1) + x : Nat) : Int) (by omega) (seg_pairwise _ _ _ _) (fun q => by
      obtain ⟨j, e, _, _, q⟩ := mem_seg.1 q
      obtain rfl : y * (w + 1) + x = j := by omega
      exact hb q) k (by omega)
    simp only
    rw [r1, Option.bind_some]
    have e1 : segFrom 0 (m ||| 2 ^ (w * (h + 1) + (y * (w + 1) + x))) 0 (w * (h + 1)) = segFrom 0 m 0 (w * (h + 1)) := by
      refine rising_ext (seg_pairwise _ _ _ _) (seg_pairwise _ _ _ _) (fun z => ?_)
      rw [mem_seg, mem_seg]
      constructor
      · rintro ⟨j, rfl, q1, q2, q3⟩
        rw [Nat.testBit_or, Nat.testBit_two_pow, decide_eq_false (by omega), Bool.or_false] at q3
        exact ⟨j, rfl, q1, q2, q3⟩
      · rintro ⟨j, rfl, q1, q2, q3⟩
        exact ⟨j, rfl, q1, q2, by rw [Nat.testBit_or, q3, Bool.true_or]⟩
    have e2 : segFrom (w * (h + 1)) (m ||| 2 ^ (w * (h + 1) + (y * (w + 1) + x))) 0 (h * (w + 1)) = r := by
      refine rising_ext (seg_pairwise _ _ _ _) r2 (fun z => ?_)
      rw [r3, mem_seg, mem_seg]
      constructor
      · rintro ⟨j, rfl, q1, q2, q3⟩
        rw [Nat.testBit_or, Nat.testBit_two_pow] at q3
        by_cases q : y * (w + 1) + x = j
        · exact .inr (by rw [q])
        · rw [decide_eq_false (by omega), Bool.or_false] at q3
          exact .inl ⟨j, rfl, q1, q2, q3⟩
      · rintro (⟨j, rfl, q1, q2, q3⟩ | rfl)
        · exact ⟨j, rfl, q1, q2, by rw [Nat.testBit_or, q3, Bool.true_or]⟩
        · exact ⟨y * (w + 1) + x, rfl, Nat.zero_le _, by omega, by rw [Nat.testBit_or, Nat.testBit_two_pow_self, Bool.or_true]⟩
    rw [e1, e2]
theorem put_lv (k : Nat) (hk : 60 ≤ k) {x y : Nat} (hx : x < w) (hy : y ≤ h) : spec_fiPut.f k w h (segs w h m).1 (segs w h m).2 false x y = some ((w : Int), (h : Int), (segs w h (m ||| 2 ^ (y * w + x))).1, (segs w h (m ||| 2 ^ (y * w + x))).2) := by
  have F := seg_fig w1 w4 h1 h4 m
  obtain ⟨_, _, hs2, hs3⟩ := F.small
  have hlt : y * w + x < w * (h + 1) := by
    have : y * w ≤ h * w := Nat.mul_le_mul_right _ hy
    rw [Nat.mul_comm h w] at this
    rw [Nat.mul_add, Nat.mul_one]; omega
  unfold spec_fiPut.f segs
  dsimp only
  rw [own_f _ _ _ _ (by omega) (by omega), Option.bind_some, edge_lv w1 w4 h1 h4 _ _ hx hy, Option.bind_some, has_lv w1 w4 h1 h4 F k (by omega) hx hy, Option.bind_some, seg_mask w1 w4 h1 h4 m hm]
  by_cases hb : m.testBit (y * w + x) = true
  · rw [if_pos hb, or_has hb]
  · rw [if_neg hb, if_neg (by simp)]
    obtain ⟨r, r1, r2, r3⟩ := put_f (segFrom 0 m 0 (w * (h + 1))) ((y * w + x : Nat) : Int) (by omega) (seg_pairwise _ _ _ _) (fun q => by
      obtain ⟨j, e, _, _, q⟩ := mem_seg.1 q
      obtain rfl : y * w + x = j := by omega
      rw [Nat.zero_add] at q
      exact hb q) k (by omega)
    simp only
    rw [r1, Option.bind_some]
    have e1 : segFrom (w * (h + 1)) (m ||| 2 ^ (y * w + x)) 0 (h * (w + 1)) = segFrom (w * (h + 1)) m 0 (h * (w + 1)) := by
      refine rising_ext (seg_pairwise _ _ _ _) (seg_pairwise _ _ _ _) (fun z => ?_)
      rw [mem_seg, mem_seg]
      constructor
      · rintro ⟨j, rfl, q1, q2, q3⟩
        rw [Nat.testBit_or, Nat.testBit_two_pow, decide_eq_false (by omega), Bool.or_false] at q3
        exact ⟨j, rfl, q1, q2, q3⟩
      · rintro ⟨j, rfl, q1, q2, q3⟩
        exact ⟨j, rfl, q1, q2, by rw [Nat.testBit_or, q3, Bool.true_or]⟩
    have e2 : segFrom 0 (m ||| 2 ^ (y * w + x)) 0 (w * (h + 1)) = r := by
      refine rising_ext (seg_pairwise _ _ _ _) r2 (fun z => ?_)
      rw [r3, mem_seg, mem_seg]
      constructor
      · rintro ⟨j, rfl, q1, q2, q3⟩
        rw [Nat.testBit_or, Nat.testBit_two_pow] at q3
        by_cases q : y * w + x = j
        · exact .inr (by rw [q])
        · rw [decide_eq_false (by omega), Bool.or_false] at q3
          exact .inl ⟨j, rfl, q1, q2, q3⟩
      · rintro (⟨j, rfl, q1, q2, q3⟩ | rfl)
        · exact ⟨j, rfl, q1, q2, by rw [Nat.testBit_or, q3, Bool.true_or]⟩
        · exact ⟨y * w + x, rfl, Nat.zero_le _, by omega, by rw [Nat.zero_add, Nat.testBit_or, Nat.testBit_two_pow_self, Bool.or_true]⟩
    rw [e1, e2]
end

/-! Bits that are laid where other bits are. -/
def orUp (S : Nat) : List (Nat × Nat) → Nat → Nat
  | [], m => m
  | p :: T, m => orUp S T (if S.testBit p.1 = true then m ||| 2 ^ p.2 else m)
theorem orUp_append (S : Nat) : ∀ (A B : List (Nat × Nat)) (m : Nat), orUp S (A ++ B) m = orUp S B (orUp S A m)
  | [], _, _ => rfl
  | p :: A, B, m => by rw [List.cons_append, orUp, orUp_append S A B, orUp]
theorem orUp_bit (S : Nat) : ∀ (T : List (Nat × Nat)) (m j : Nat), (orUp S T m).testBit j = true ↔ m.testBit j = true ∨ ∃ s, (s, j) ∈ T ∧ S.testBit s = true
  | [], m, j => by simp [orUp]
  | (s, t) :: T, m, j => by
    rw [orUp, orUp_bit S T]
    have hm : (if S.testBit s = true then m ||| 2 ^ t else m).testBit j = true ↔ m.testBit j = true ∨ (S.testBit s = true ∧ t = j) := by
      by_cases q : S.testBit s = true
      · rw [if_pos q, Nat.testBit_or, Nat.testBit_two_pow]; simp [q]
      · rw [if_neg q]; simp [q]
    rw [hm]
    constructor
    · rintro ((a | ⟨a, rfl⟩) | ⟨s', a, b⟩)
      · exact .inl a
      · exact .inr ⟨s, List.mem_cons_self, a⟩
      · exact .inr ⟨s', List.mem_cons_of_mem _ a, b⟩
    · rintro (a | ⟨s', a, b⟩)
      · exact .inl (.inl a)
      · rcases List.mem_cons.1 a with e | a
        · simp only [Prod.mk.injEq] at e
          obtain ⟨rfl, rfl⟩ := e
          exact .inl (.inr ⟨b, rfl⟩)
        · exact .inr ⟨s', a, b⟩
theorem orUp_lt (S E : Nat) : ∀ (T : List (Nat × Nat)) (m : Nat), (∀ p ∈ T, p.2 < E) → m < 2 ^ E → orUp S T m < 2 ^ E
  | [], _, _, h => h
  | p :: T, m, hT, h => by
    rw [orUp]
    refine orUp_lt S E T _ (fun q hq => hT q (List.mem_cons_of_mem _ hq)) ?_
    split
    · exact Nat.or_lt_two_pow h (Nat.pow_lt_pow_right (by decide) (hT p List.mem_cons_self))
    · exact h
def accT (t : Nat → Nat) (l : List Int) (m : Nat) : Nat := l.foldl (fun m x => m ||| 2 ^ t x.toNat) m
theorem accT_bit (t : Nat → Nat) : ∀ (l : List Int) (m j : Nat), (accT t l m).testBit j = true ↔ m.testBit j = true ∨ ∃ x ∈ l, t x.toNat = j
  | [], m, j => by simp [accT]
  | x :: l, m, j => by
    show (accT t l (m ||| 2 ^ t x.toNat)).testBit j = true ↔ _
    rw [accT_bit t l, Nat.testBit_or, Nat.testBit_two_pow]
    simp only [Bool.or_eq_true, decide_eq_true_eq, List.mem_cons, exists_eq_or_imp]
    exact ⟨fun h => h.elim (fun h => h.elim .inl (fun h => .inr (.inl h))) (fun h => .inr (.inr h)), fun h => h.elim (fun h => .inl (.inl h)) (fun h => h.elim (fun h => .inl (.inr h)) .inr)⟩
theorem accT_lt (t : Nat → Nat) (E : Nat) : ∀ (l : List Int) (m : Nat), (∀ x ∈ l, t x.toNat < E) → m < 2 ^ E → accT t l m < 2 ^ E
  | [], _, _, h => h
  | x :: l, m, hl, h => accT_lt t E l _ (fun y hy => hl y (List.mem_cons_of_mem _ hy)) (Nat.or_lt_two_pow h (Nat.pow_lt_pow_right (by decide) (hl x List.mem_cons_self)))

/-! Figures that are turned: both tell the same. -/
def tuCell (w h x y : Nat) : List (Nat × Nat) :=
  (if x < w then [(y * w + x, h * (w + 1) + (x * (h + 1) + (h - y)))] else []) ++ (if y < h then [(w * (h + 1) + (y * (w + 1) + x), x * h + (h - 1 - y))] else [])
def tuRow (w h y : Nat) : Nat → Nat → List (Nat × Nat)
  | _, 0 => []
  | x, d + 1 => tuCell w h x y ++ tuRow w h y (x + 1) d
def tuAll (w h : Nat) : Nat → Nat → List (Nat × Nat)
  | _, 0 => []
  | y, d + 1 => tuRow w h y 0 (w + 1) ++ tuAll w h (y + 1) d
def tu1 (w h k : Nat) : Nat := h * (w + 1) + (k % w * (h + 1) + (h - k / w))
def tu2 (w h u : Nat) : Nat := u % (w + 1) * h + (h - 1 - u / (w + 1))
def TuOK (w h : Nat) : Prop :=
  (∀ p ∈ tuAll w h 0 (h + 1), ((p.1 < w * (h + 1) ∧ p.2 = tu1 w h p.1) ∨ (w * (h + 1) ≤ p.1 ∧ p.1 < w * (h + 1) + h * (w + 1) ∧ p.2 = tu2 w h (p.1 - w * (h + 1)))) ∧ p.2 < h * (w + 1) + w * (h + 1)) ∧
  (∀ k ∈ List.range (w * (h + 1)), (k, tu1 w h k) ∈ tuAll w h 0 (h + 1)) ∧ (∀ u ∈ List.range (h * (w + 1)), (w * (h + 1) + u, tu2 w h u) ∈ tuAll w h 0 (h + 1))
instance (w h : Nat) : Decidable (TuOK w h) := by unfold TuOK; infer_instance
theorem tu_all : ∀ w : Fin 4, ∀ h : Fin 4, TuOK (w.val + 1) (h.val + 1) := by decide +kernel
theorem tu_ok {w h : Nat} (w1 : 1 ≤ w) (w4 : w ≤ 4) (h1 : 1 ≤ h) (h4 : h ≤ 4) : TuOK w h := by
  have := tu_all ⟨w - 1, by omega⟩ ⟨h - 1, by omega⟩
  simp only at this
  rw [show w - 1 + 1 = w by omega, show h - 1 + 1 = h by omega] at this
  exact this
section
variable {w h : Nat} (w1 : 1 ≤ w) (w4 : w ≤ 4) (h1 : 1 ≤ h) (h4 : h ≤ 4) {l2 l3 : List Int} (F : FigOK (w : Int) (h : Int) l2 l3) {P : Option (Int × Int × List Int × List Int) → Prop}
include w1 w4 h1 h4 F
theorem tu_j3 {x y : Nat} (hx : x ≤ w) (hy : y ≤ h) (k B m : Nat) (hm : m < 2 ^ (h * (w + 1) + w * (h + 1))) (hB : 80 ≤ B)
    (hc : ∀ k', B ≤ k' → P (spec_fiTurn.l1 k' (y : Int) ((x + 1 : Nat) : Int) w h l2 l3 h w (segs h w (orUp (maskN w h l2 l3) (if y < h then [(w * (h + 1) + (y * (w + 1) + x), x * h + (h - 1 - y))] else []) m)).1 (segs h w (orUp (maskN w h l2 l3) (if y < h then [(w * (h + 1) + (y * (w + 1) + x), x * h + (h - 1 - y))] else []) m)).2))
    (hk : B + 1 ≤ k) : P (spec_fiTurn.j3 k (y : Int) (x : Int) w h l2 l3 h w (segs h w m).1 (segs h w m).2) := by
  obtain ⟨k, rfl⟩ : ∃ p, k = p + 1 := ⟨k - 1, by omega⟩
  simp only [spec_fiTurn.j3]
  have e3 : wrap64 ((x : Int) + 1) = ((x + 1 : Nat) : Int) := by rw [w64 _ (by omega) (by omega)]; omega
  rw [e3]
  clear e3
  by_cases hyh : y < h
  · rw [if_pos hyh] at hc
    simp only [orUp] at hc
    have e1 : wrap64 ((wrap64 ((h : Int) - 1)) - (y : Int)) = ((h - 1 - y : Nat) : Int) := by rw [w64 ((h : Int) - 1) (by omega) (by omega), w64 _ (by omega) (by omega)]; omega
    rw [e1]
    clear e1
    rw [if_pos (by omega), has_up w1 w4 h1 h4 F k (by omega) hx hyh, Option.bind_some]
    by_cases hb : (maskN w h l2 l3).testBit (w * (h + 1) + (y * (w + 1) + x)) = true
    · rw [if_pos hb] at hc
      rw [if_pos hb, put_lv h1 h4 w1 w4 hm k (by omega) (show h - 1 - y < h by omega) hx, Option.bind_some]
      exact hc k (by omega)
    · rw [if_neg hb] at hc
      rw [if_neg hb]
      exact hc k (by omega)
  · rw [if_neg hyh] at hc
    simp only [orUp] at hc
    rw [if_neg (by omega)]
    exact hc k (by omega)
theorem tu_l1 {y : Nat} (hy : y ≤ h) : ∀ (d x k B m : Nat), x + d = w + 1 → m < 2 ^ (h * (w + 1) + w * (h + 1)) → 80 ≤ B →
    (∀ k', B ≤ k' → P (spec_fiTurn.l0 k' ((y + 1 : Nat) : Int) w h l2 l3 h w (segs h w (orUp (maskN w h l2 l3) (tuRow w h y x d) m)).1 (segs h w (orUp (maskN w h l2 l3) (tuRow w h y x d) m)).2)) →
    B + 3 * d + 1 ≤ k → P (spec_fiTurn.l1 k (y : Int) (x : Int) w h l2 l3 h w (segs h w m).1 (segs h w m).2) := by
  have hT := (tu_ok w1 w4 h1 h4).1
  intro d
  induction d with
  | zero =>
    intro x k B m hx hm hB hc hk
    obtain ⟨k, rfl⟩ : ∃ p, k = p + 1 := ⟨k - 1, by omega⟩
    simp only [spec_fiTurn.l1]
    have hyy : wrap64 ((y : Int) + 1) = ((y + 1 : Nat) : Int) := by rw [w64 _ (by omega) (by omega)]; omega
    rw [if_neg (by omega), hyy]
    exact hc k (by omega)
  | succ d ih =>
    intro x k B m hx hm hB hc hk
    obtain ⟨k, rfl⟩ : ∃ p, k = p + 2 := ⟨k - 2, by omega⟩
    have hxw : x ≤ w := by omega
    have go : ∀ m2 : Nat, m2 < 2 ^ (h * (w + 1) + w * (h + 1)) → m2 = orUp (maskN w h l2 l3) (if x < w then [(y * w + x, h * (w + 1) + (x * (h + 1) + (h - y)))] else []) m → P (spec_fiTurn.j3 k (y : Int) (x : Int) w h l2 l3 h w (segs h w m2).1 (segs h w m2).2) := by
      intro m2 hm2 he
      refine tu_j3 w1 w4 h1 h4 F hxw hy k (B + 3 * d + 1) m2 hm2 (by omega) (fun k' hk' => ?_) (by omega)
      refine ih (x + 1) k' B _ (by omega) ?_ hB (fun k'' hk'' => ?_) hk'
      · refine orUp_lt _ _ _ _ (fun p hp => ?_) hm2
        by_cases q : y < h
        · rw [if_pos q] at hp
          have hp := List.mem_singleton.1 hp
          subst hp
          have : x * h ≤ w * h := Nat.mul_le_mul_right _ hxw
          have e1 : w * (h + 1) = w * h + w := by rw [Nat.mul_add, Nat.mul_one]
          have e2 : h * (w + 1) = w * h + h := by rw [Nat.mul_add, Nat.mul_one, Nat.mul_comm]
          show x * h + (h - 1 - y) < _
          omega
        · rw [if_neg q] at hp; cases hp
      · have := hc k'' hk''
        rw [tuRow, tuCell, orUp_append, orUp_append, ← he] at this
        exact this
    clear hc ih
    simp only [spec_fiTurn.l1]
    rw [if_pos (by omega)]
    by_cases hr : x < w
    · rw [if_pos hr] at go
      simp only [orUp] at go
      have hb2 : h * (w + 1) + (x * (h + 1) + (h - y)) < h * (w + 1) + w * (h + 1) := by
        have : (x + 1) * (h + 1) ≤ w * (h + 1) := Nat.mul_le_mul_right _ hr
        rw [Nat.add_mul, Nat.one_mul] at this; omega
      rw [if_pos (by omega), has_lv w1 w4 h1 h4 F (k + 1) (by omega) hr hy, Option.bind_some]
      simp only [spec_fiTurn.j2]
      by_cases hb : (maskN w h l2 l3).testBit (y * w + x) = true
      · rw [if_pos hb] at go
        have e1 : wrap64 ((h : Int) - (y : Int)) = ((h - y : Nat) : Int) := by rw [w64 _ (by omega) (by omega)]; omega
        rw [if_pos hb, e1]
        clear e1
        rw [put_up h1 h4 w1 w4 hm k (by omega) (show h - y ≤ h by omega) hr, Option.bind_some]
        exact go _ (Nat.or_lt_two_pow hm (Nat.pow_lt_pow_right (by decide) hb2)) rfl
      · rw [if_neg hb] at go
        rw [if_neg hb]
        exact go m hm rfl
    · rw [if_neg hr] at go
      rw [if_neg (by omega)]
      simp only [spec_fiTurn.j2]
      rw [if_neg (by simp)]
      exact go m hm rfl
theorem tu_l0 : ∀ (d y k m : Nat), y + d = h + 1 → m < 2 ^ (h * (w + 1) + w * (h + 1)) → 81 + 20 * d ≤ k →
    spec_fiTurn.l0 k (y : Int) w h l2 l3 h w (segs h w m).1 (segs h w m).2 = some ((h : Int), (w : Int), (segs h w (orUp (maskN w h l2 l3) (tuAll w h y d) m)).1, (segs h w (orUp (maskN w h l2 l3) (tuAll w h y d) m)).2) := by
  intro d
  induction d with
  | zero =>
    intro y k m hy hm hk
    obtain ⟨k, rfl⟩ : ∃ p, k = p + 1 := ⟨k - 1, by omega⟩
    simp only [spec_fiTurn.l0]
    rw [if_neg (by omega)]
    rfl
  | succ d ih =>
    intro y k m hy hm hk
    obtain ⟨k, rfl⟩ : ∃ p, k = p + 1 := ⟨k - 1, by omega⟩
    simp only [spec_fiTurn.l0]
    rw [if_pos (by omega)]
    refine tu_l1 w1 w4 h1 h4 F (P := fun o => o = some ((h : Int), (w : Int), (segs h w (orUp (maskN w h l2 l3) (tuAll w h y (d + 1)) m)).1, (segs h w (orUp (maskN w h l2 l3) (tuAll w h y (d + 1)) m)).2)) (show y ≤ h by omega) (w + 1) 0 k (81 + 20 * d) m (by omega) hm (by omega) (fun k' hk' => ?_) (by omega)
    have hlt : orUp (maskN w h l2 l3) (tuRow w h y 0 (w + 1)) m < 2 ^ (h * (w + 1) + w * (h + 1)) := by
      refine orUp_lt _ _ _ _ (fun p hp => ?_) hm
      have hin : ∀ (d' y' : Nat), y' ≤ y → y < y' + d' → p ∈ tuAll w h y' d' := by
        intro d'
        induction d' with
        | zero => intro y' q1 q2; omega
        | succ d' ih' =>
          intro y' q1 q2
          rw [tuAll, List.mem_append]
          by_cases e : y' = y
          · subst e; exact .inl hp
          · exact .inr (ih' (y' + 1) (by omega) (by omega))
      exact ((tu_ok w1 w4 h1 h4).1 p (hin (h + 1) 0 (by omega) (by omega))).2
    rw [ih (y + 1) k' _ (by omega) hlt hk', tuAll, orUp_append]
theorem fiTurn_f (k : Nat) (hk : 200 ≤ k) : spec_fiTurn.f k w h l2 l3 = some ((h : Int), (w : Int), (segs h w (orUp (maskN w h l2 l3) (tuAll w h 0 (h + 1)) 0)).1, (segs h w (orUp (maskN w h l2 l3) (tuAll w h 0 (h + 1)) 0)).2) := by
  have := tu_l0 w1 w4 h1 h4 F (h + 1) 0 k 0 (by omega) (Nat.two_pow_pos _) (by omega)
  have e : segs h w 0 = ([], []) := by
    unfold segs
    have : ∀ off i d, segFrom off 0 i d = [] := fun off i d => List.eq_nil_iff_forall_not_mem.2 fun x hx => by
      obtain ⟨j, _, _, _, q⟩ := mem_seg.1 hx
      rw [Nat.zero_testBit] at q; cases q
    rw [this, this]
  rw [e] at this
  exact this
end

theorem lev_f {w h : Nat} (w1 : 1 ≤ w) (w4 : w ≤ 4) (h1 : 1 ≤ h) (h4 : h ≤ 4) : impl_grid_levels.f (w : Int) (h : Int) = some ((w * (h + 1) : Nat) : Int) := by
  have hb := (nums_nat w1 w4 h1 h4).1
  unfold impl_grid_levels.f
  rw [w64 ((h : Int) + 1) (by omega) (by omega), show (w : Int) * ((h : Int) + 1) = ((w * (h + 1) : Nat) : Int) by push_cast; rfl, w64 _ (by omega) (by omega)]

theorem tu_div {v n : Nat} (hn : 0 < n) : Int.tdiv (v : Int) (n : Int) = ((v / n : Nat) : Int) ∧ Int.tmod (v : Int) (n : Int) = ((v % n : Nat) : Int) := ⟨by rw [Int.tdiv_eq_ediv_of_nonneg (by omega)]; rfl, by rw [Int.tmod_eq_emod_of_nonneg (by omega)]; rfl⟩
section
variable {w h : Nat} (w1 : 1 ≤ w) (w4 : w ≤ 4) (h1 : 1 ≤ h) (h4 : h ≤ 4)
include w1 w4 h1 h4
theorem tu_up (k : Nat) (hk : k < w * (h + 1)) : impl_grid_upright.f (h : Int) (w : Int) (wrap64 ((h : Int) - (wrap64 (Int.tdiv (k : Int) (w : Int))))) (Int.tmod (k : Int) (w : Int)) = some ((2 ^ tu1 w h k : Nat) : Int) ∧ tu1 w h k < 40 := by
  have g1 := lev_f h1 h4 w1 w4
  have hd : k / w ≤ h := by
    have := Nat.div_lt_of_lt_mul hk; omega
  have hmd : k % w < w := Nat.mod_lt _ (by omega)
  have hb : k % w * (h + 1) ≤ 3 * 5 := Nat.mul_le_mul (by omega) (by omega)
  have hL : h * (w + 1) ≤ 20 := Nat.mul_le_mul h4 (show w + 1 ≤ 5 by omega)
  obtain ⟨e1, e2⟩ := tu_div (v := k) (n := w) (by omega)
  rw [e1, e2]
  clear e1 e2
  unfold tu1
  clear hk
  generalize k / w = q at *
  generalize k % w = r at *
  refine ⟨?_, by omega⟩
  rw [w64 (q : Int) (by omega) (by omega), w64 _ (by omega) (by omega), show (h : Int) - (q : Int) = ((h - q : Nat) : Int) by omega]
  unfold impl_grid_upright.f
  rw [g1, Option.bind_some]
  clear g1
  have e3 : wrap64 ((h : Int) + 1) = ((h + 1 : Nat) : Int) := by rw [w64 _ (by omega) (by omega)]; omega
  rw [e3]
  clear e3
  rw [show (r : Int) * ((h + 1 : Nat) : Int) = ((r * (h + 1) : Nat) : Int) by push_cast; rfl, w64 ((r * (h + 1) : Nat) : Int) (by omega) (by omega), w64 (((h * (w + 1) : Nat) : Int) + ((r * (h + 1) : Nat) : Int)) (by omega) (by omega), w64 _ (by omega) (by omega), if_pos (by omega), shl_one _ (by omega) (by omega)]
  congr 3
  omega
theorem tu_lv (u : Nat) (hu : u < h * (w + 1)) : impl_grid_level.f (h : Int) (w : Int) (wrap64 ((wrap64 ((h : Int) - 1)) - (wrap64 (Int.tdiv (u : Int) (wrap64 ((w : Int) + 1)))))) (Int.tmod (u : Int) (wrap64 ((w : Int) + 1))) = some ((2 ^ tu2 w h u : Nat) : Int) ∧ tu2 w h u < 40 := by
  have hd : u / (w + 1) < h := Nat.div_lt_of_lt_mul (by rw [Nat.mul_comm]; exact hu)
  have hmd : u % (w + 1) < w + 1 := Nat.mod_lt _ (by omega)
  have hb : u % (w + 1) * h ≤ 4 * 4 := Nat.mul_le_mul (by omega) h4
  have e3 : wrap64 ((w : Int) + 1) = ((w + 1 : Nat) : Int) := by rw [w64 _ (by omega) (by omega)]; omega
  rw [e3]
  clear e3
  obtain ⟨e1, e2⟩ := tu_div (v := u) (n := w + 1) (by omega)
  rw [e1, e2]
  clear e1 e2
  unfold tu2
  clear hu
  generalize u / (w + 1) = q at *
  generalize u % (w + 1) = r at *
  refine ⟨?_, by omega⟩
  rw [w64 (q : Int) (by omega) (by omega), w64 ((h : Int) - 1) (by omega) (by omega), w64 _ (by omega) (by omega), show (h : Int) - 1 - (q : Int) = ((h - 1 - q : Nat) : Int) by omega]
  unfold impl_grid_level.f
  rw [show (r : Int) * (h : Int) = ((r * h : Nat) : Int) by push_cast; rfl, w64 ((r * h : Nat) : Int) (by omega) (by omega), w64 _ (by omega) (by omega), if_pos (by omega), shl_one _ (by omega) (by omega)]
  congr 3
variable {l2 l3 : List Int} (F : FigOK (w : Int) (h : Int) l2 l3)
include F
theorem turned_l1 : ∀ (d i k m : Nat), i + d = l3.length → d + 100 ≤ k → m < 4611686018427387904 → accT (tu2 w h) (l3.drop i) m < 2 ^ (h * (w + 1) + w * (h + 1)) →
    impl_turned.l1 k (m : Int) l3 (l3.length : Int) (i : Int) w h h w = some ((h : Int), (w : Int), (segs h w (accT (tu2 w h) (l3.drop i) m)).1, (segs h w (accT (tu2 w h) (l3.drop i) m)).2) := by
  have hK : h * (w + 1) ≤ 20 := (nums_nat h1 h4 w1 w4).1
  have hK2 : w * (h + 1) ≤ 20 := (nums_nat h1 h4 w1 w4).2.1
  have c2 : (h : Int) * ((w : Int) + 1) = ((h * (w + 1) : Nat) : Int) := by push_cast; rfl
  obtain ⟨_, _, s2, s3⟩ := F.small
  intro d
  induction d with
  | zero =>
    intro i k m hi hk hm hr
    obtain ⟨k, rfl⟩ : ∃ p, k = p + 1 := ⟨k - 1, by omega⟩
    rw [List.drop_of_length_le (by omega)] at hr ⊢
    simp only [impl_turned.l1]
    rw [if_neg (by omega), fig_f (h : Int) (w : Int) _ _ (nums_nat h1 h4 w1 w4).2.2.2.2.1 hK hK2 m hm hr k (by omega), Option.bind_some]
    rfl
  | succ d ih =>
    intro i k m hi hk hm hr
    obtain ⟨k, rfl⟩ : ∃ p, k = p + 1 := ⟨k - 1, by omega⟩
    have hlt : i < l3.length := by omega
    have hx := F.in3 _ (rd_mem (l := l3) (j := i) hlt)
    have e : rd l3 (i : Int) = l3[i] := by simp [rd, hlt]
    rw [List.drop_eq_getElem_cons hlt] at hr ⊢
    simp only [impl_turned.l1]
    rw [if_pos (by omega), if_pos (by omega), if_pos (by omega), if_neg (by rw [w64 ((w : Int) + 1) (by omega) (by omega)]; omega), e]
    rw [e, c2] at hx
    clear e
    generalize l3[i] = v at *
    obtain ⟨u, rfl⟩ := Int.eq_ofNat_of_zero_le hx.1
    obtain ⟨t1, t2⟩ := tu_lv w1 w4 h1 h4 u (by omega)
    rw [t1, Option.bind_some, u64_or_nat m _ (by omega) (pow64 (by omega)), w64 ((i : Int) + 1) (by omega) (by omega), show ((i : Int) + 1) = ((i + 1 : Nat) : Int) by omega]
    exact ih (i + 1) k _ (by omega) (by omega) (Nat.or_lt_two_pow (n := 62) hm (Nat.lt_of_lt_of_le (Nat.pow_lt_pow_right (by decide) (show tu2 w h u < 62 by omega)) (by decide))) hr
theorem turned_l0 : ∀ (d i k m : Nat), i + d = l2.length → d + 200 ≤ k → m < 4611686018427387904 → accT (tu2 w h) l3 (accT (tu1 w h) (l2.drop i) m) < 2 ^ (h * (w + 1) + w * (h + 1)) →
    impl_turned.l0 k (m : Int) l2 (l2.length : Int) (i : Int) w h l2 l3 w h h w = some ((h : Int), (w : Int), (segs h w (accT (tu2 w h) l3 (accT (tu1 w h) (l2.drop i) m))).1, (segs h w (accT (tu2 w h) l3 (accT (tu1 w h) (l2.drop i) m))).2) := by
  have c1 : (w : Int) * ((h : Int) + 1) = ((w * (h + 1) : Nat) : Int) := by push_cast; rfl
  obtain ⟨_, _, s2, s3⟩ := F.small
  intro d
  induction d with
  | zero =>
    intro i k m hi hk hm hr
    obtain ⟨k, rfl⟩ : ∃ p, k = p + 1 := ⟨k - 1, by omega⟩
    rw [List.drop_of_length_le (by omega)] at hr ⊢
    simp only [impl_turned.l0]
    rw [if_neg (by omega)]
    have := turned_l1 w1 w4 h1 h4 F l3.length 0 k m (by omega) (by omega) hm (by simpa [accT] using hr)
    simpa [accT] using this
  | succ d ih =>
    intro i k m hi hk hm hr
    obtain ⟨k, rfl⟩ : ∃ p, k = p + 1 := ⟨k - 1, by omega⟩
    have hlt : i < l2.length := by omega
    have hx := F.in2 _ (rd_mem (l := l2) (j := i) hlt)
    have e : rd l2 (i : Int) = l2[i] := by simp [rd, hlt]
    rw [List.drop_eq_getElem_cons hlt] at hr ⊢
    simp only [impl_turned.l0]
    rw [if_pos (by omega), if_pos (by omega), if_pos (by omega), if_neg (by omega), e]
    rw [e, c1] at hx
    clear e
    generalize l2[i] = v at *
    obtain ⟨u, rfl⟩ := Int.eq_ofNat_of_zero_le hx.1
    obtain ⟨t1, t2⟩ := tu_up w1 w4 h1 h4 u (by omega)
    rw [t1, Option.bind_some, u64_or_nat m _ (by omega) (pow64 (by omega)), w64 ((i : Int) + 1) (by omega) (by omega), show ((i : Int) + 1) = ((i + 1 : Nat) : Int) by omega]
    exact ih (i + 1) k _ (by omega) (by omega) (Nat.or_lt_two_pow (n := 62) hm (Nat.lt_of_lt_of_le (Nat.pow_lt_pow_right (by decide) (show tu1 w h u < 62 by omega)) (by decide))) hr
theorem tu_same : accT (tu2 w h) l3 (accT (tu1 w h) l2 0) = orUp (maskN w h l2 l3) (tuAll w h 0 (h + 1)) 0 := by
  have c1 : (w : Int) * ((h : Int) + 1) = ((w * (h + 1) : Nat) : Int) := by push_cast; rfl
  have c2 : (h : Int) * ((w : Int) + 1) = ((h * (w + 1) : Nat) : Int) := by push_cast; rfl
  obtain ⟨T1, T2, T3⟩ := tu_ok w1 w4 h1 h4
  apply Nat.eq_of_testBit_eq
  intro j
  rw [Bool.eq_iff_iff, accT_bit, accT_bit, orUp_bit, Nat.zero_testBit]
  constructor
  · rintro ((a | ⟨x, hx, e⟩) | ⟨x, hx, e⟩)
    · cases a
    · have := F.in2 x hx
      rw [c1] at this
      obtain ⟨s, rfl⟩ := Int.eq_ofNat_of_zero_le this.1
      rw [Int.toNat_natCast] at e
      exact .inr ⟨s, e ▸ T2 s (List.mem_range.2 (by omega)), (mask_low F s (by omega)).2 hx⟩
    · have := F.in3 x hx
      rw [c2] at this
      obtain ⟨s, rfl⟩ := Int.eq_ofNat_of_zero_le this.1
      rw [Int.toNat_natCast] at e
      exact .inr ⟨w * (h + 1) + s, e ▸ T3 s (List.mem_range.2 (by omega)), (mask_high F s).2 hx⟩
  · rintro (a | ⟨s, hs, hb⟩)
    · cases a
    · rcases (T1 _ hs).1 with ⟨q1, q2⟩ | ⟨q1, q3, q2⟩
      · simp only at q1 q2
        exact .inl (.inr ⟨(s : Int), (mask_low F s q1).1 hb, by rw [Int.toNat_natCast, q2]⟩)
      · simp only at q1 q2
        obtain ⟨u, rfl⟩ : ∃ u, s = w * (h + 1) + u := ⟨s - w * (h + 1), by omega⟩
        refine .inr ⟨(u : Int), (mask_high F u).1 hb, ?_⟩
        rw [Int.toNat_natCast, q2]
        congr 1
        omega
theorem turned_f (k : Nat) (hk : 300 ≤ k) : impl_turned.f k w h l2 l3 = some ((h : Int), (w : Int), (segs h w (orUp (maskN w h l2 l3) (tuAll w h 0 (h + 1)) 0)).1, (segs h w (orUp (maskN w h l2 l3) (tuAll w h 0 (h + 1)) 0)).2) := by
  obtain ⟨_, _, s2, s3⟩ := F.small
  have e := tu_same w1 w4 h1 h4 F
  have := turned_l0 w1 w4 h1 h4 F l2.length 0 k 0 (by omega) (by omega) (by omega) (by
    rw [List.drop_zero, e]
    exact orUp_lt _ _ _ _ (fun p hp => ((tu_ok w1 w4 h1 h4).1 p hp).2) (Nat.two_pow_pos _))
  rw [List.drop_zero, e] at this
  unfold impl_turned.f impl_Figure_grid.f
  exact this
end

/-! Figures that are mirrored: both tell the same. -/
def miCell (w h x y : Nat) : List (Nat × Nat) :=
  (if x < w then [(y * w + x, y * w + (w - 1 - x))] else []) ++ (if y < h then [(w * (h + 1) + (y * (w + 1) + x), w * (h + 1) + (y * (w + 1) + (w - x)))] else [])
def miRow (w h y : Nat) : Nat → Nat → List (Nat × Nat)
  | _, 0 => []
  | x, d + 1 => miCell w h x y ++ miRow w h y (x + 1) d
def miAll (w h : Nat) : Nat → Nat → List (Nat × Nat)
  | _, 0 => []
  | y, d + 1 => miRow w h y 0 (w + 1) ++ miAll w h (y + 1) d
def mi1 (w k : Nat) : Nat := k / w * w + (w - 1 - k % w)
def mi2 (w h u : Nat) : Nat := w * (h + 1) + (u / (w + 1) * (w + 1) + (w - u % (w + 1)))
def MiOK (w h : Nat) : Prop :=
  (∀ p ∈ miAll w h 0 (h + 1), ((p.1 < w * (h + 1) ∧ p.2 = mi1 w p.1) ∨ (w * (h + 1) ≤ p.1 ∧ p.1 < w * (h + 1) + h * (w + 1) ∧ p.2 = mi2 w h (p.1 - w * (h + 1)))) ∧ p.2 < w * (h + 1) + h * (w + 1)) ∧
  (∀ k ∈ List.range (w * (h + 1)), (k, mi1 w k) ∈ miAll w h 0 (h + 1)) ∧ (∀ u ∈ List.range (h * (w + 1)), (w * (h + 1) + u, mi2 w h u) ∈ miAll w h 0 (h + 1))
instance (w h : Nat) : Decidable (MiOK w h) := by unfold MiOK; infer_instance
theorem mi_all : ∀ w : Fin 4, ∀ h : Fin 4, MiOK (w.val + 1) (h.val + 1) := by decide +kernel
theorem mi_ok {w h : Nat} (w1 : 1 ≤ w) (w4 : w ≤ 4) (h1 : 1 ≤ h) (h4 : h ≤ 4) : MiOK w h := by
  have := mi_all ⟨w - 1, by omega⟩ ⟨h - 1, by omega⟩
  simp only at this
  rw [show w - 1 + 1 = w by omega, show h - 1 + 1 = h by omega] at this
  exact this
section
variable {w h : Nat} (w1 : 1 ≤ w) (w4 : w ≤ 4) (h1 : 1 ≤ h) (h4 : h ≤ 4) {l2 l3 : List Int} (F : FigOK (w : Int) (h : Int) l2 l3) {P : Option (Int × Int × List Int × List Int) → Prop}
include w1 w4 h1 h4 F
theorem mi_j3 {x y : Nat} (hx : x ≤ w) (hy : y ≤ h) (k B m : Nat) (hm : m < 2 ^ (w * (h + 1) + h * (w + 1))) (hB : 80 ≤ B)
    (hc : ∀ k', B ≤ k' → P (spec_fiMirror.l1 k' (y : Int) ((x + 1 : Nat) : Int) w h l2 l3 w h (segs w h (orUp (maskN w h l2 l3) (if y < h then [(w * (h + 1) + (y * (w + 1) + x), w * (h + 1) + (y * (w + 1) + (w - x)))] else []) m)).1 (segs w h (orUp (maskN w h l2 l3) (if y < h then [(w * (h + 1) + (y * (w + 1) + x), w * (h + 1) + (y * (w + 1) + (w - x)))] else []) m)).2))
    (hk : B + 1 ≤ k) : P (spec_fiMirror.j3 k (y : Int) (x : Int) w h l2 l3 w h (segs w h m).1 (segs w h m).2) := by
  obtain ⟨k, rfl⟩ : ∃ p, k = p + 1 := ⟨k - 1, by omega⟩
  simp only [spec_fiMirror.j3]
  have e3 : wrap64 ((x : Int) + 1) = ((x + 1 : Nat) : Int) := by rw [w64 _ (by omega) (by omega)]; omega
  rw [e3]
  clear e3
  by_cases hyh : y < h
  · rw [if_pos hyh] at hc
    simp only [orUp] at hc
    have e1 : wrap64 ((w : Int) - (x : Int)) = ((w - x : Nat) : Int) := by rw [w64 _ (by omega) (by omega)]; omega
    rw [e1]
    clear e1
    rw [if_pos (by omega), has_up w1 w4 h1 h4 F k (by omega) hx hyh, Option.bind_some]
    by_cases hb : (maskN w h l2 l3).testBit (w * (h + 1) + (y * (w + 1) + x)) = true
    · rw [if_pos hb] at hc
      rw [if_pos hb, put_up w1 w4 h1 h4 hm k (by omega) (show w - x ≤ w by omega) hyh, Option.bind_some]
      exact hc k (by omega)
    · rw [if_neg hb] at hc
      rw [if_neg hb]
      exact hc k (by omega)
  · rw [if_neg hyh] at hc
    simp only [orUp] at hc
    rw [if_neg (by omega)]
    exact hc k (by omega)
theorem mi_l1 {y : Nat} (hy : y ≤ h) : ∀ (d x k B m : Nat), x + d = w + 1 → m < 2 ^ (w * (h + 1) + h * (w + 1)) → 80 ≤ B →
    (∀ k', B ≤ k' → P (spec_fiMirror.l0 k' ((y + 1 : Nat) : Int) w h l2 l3 w h (segs w h (orUp (maskN w h l2 l3) (miRow w h y x d) m)).1 (segs w h (orUp (maskN w h l2 l3) (miRow w h y x d) m)).2)) →
    B + 3 * d + 1 ≤ k → P (spec_fiMirror.l1 k (y : Int) (x : Int) w h l2 l3 w h (segs w h m).1 (segs w h m).2) := by
  intro d
  induction d with
  | zero =>
    intro x k B m hx hm hB hc hk
    obtain ⟨k, rfl⟩ : ∃ p, k = p + 1 := ⟨k - 1, by omega⟩
    simp only [spec_fiMirror.l1]
    have hyy : wrap64 ((y : Int) + 1) = ((y + 1 : Nat) : Int) := by rw [w64 _ (by omega) (by omega)]; omega
    rw [if_neg (by omega), hyy]
    exact hc k (by omega)
  | succ d ih =>
    intro x k B m hx hm hB hc hk
    obtain ⟨k, rfl⟩ : ∃ p, k = p + 2 := ⟨k - 2, by omega⟩
    have hxw : x ≤ w := by omega
    have go : ∀ m2 : Nat, m2 < 2 ^ (w * (h + 1) + h * (w + 1)) → m2 = orUp (maskN w h l2 l3) (if x < w then [(y * w + x, y * w + (w - 1 - x))] else []) m → P (spec_fiMirror.j3 k (y : Int) (x : Int) w h l2 l3 w h (segs w h m2).1 (segs w h m2).2) := by
      intro m2 hm2 he
      refine mi_j3 w1 w4 h1 h4 F hxw hy k (B + 3 * d + 1) m2 hm2 (by omega) (fun k' hk' => ?_) (by omega)
      refine ih (x + 1) k' B _ (by omega) ?_ hB (fun k'' hk'' => ?_) hk'
      · refine orUp_lt _ _ _ _ (fun p hp => ?_) hm2
        by_cases q : y < h
        · rw [if_pos q] at hp
          have hp := List.mem_singleton.1 hp
          subst hp
          have : (y + 1) * (w + 1) ≤ h * (w + 1) := Nat.mul_le_mul_right _ q
          rw [Nat.add_mul, Nat.one_mul] at this
          show w * (h + 1) + (y * (w + 1) + (w - x)) < _
          omega
        · rw [if_neg q] at hp; cases hp
      · have := hc k'' hk''
        rw [miRow, miCell, orUp_append, orUp_append, ← he] at this
        exact this
    clear hc ih
    simp only [spec_fiMirror.l1]
    rw [if_pos (by omega)]
    by_cases hr : x < w
    · rw [if_pos hr] at go
      simp only [orUp] at go
      have hb2 : y * w + (w - 1 - x) < w * (h + 1) + h * (w + 1) := by
        have : (y + 1) * w ≤ (h + 1) * w := Nat.mul_le_mul_right _ (by omega)
        rw [Nat.add_mul, Nat.one_mul, Nat.mul_comm (h + 1)] at this; omega
      rw [if_pos (by omega), has_lv w1 w4 h1 h4 F (k + 1) (by omega) hr hy, Option.bind_some]
      simp only [spec_fiMirror.j2]
      by_cases hb : (maskN w h l2 l3).testBit (y * w + x) = true
      · rw [if_pos hb] at go
        have e1 : wrap64 ((wrap64 ((w : Int) - 1)) - (x : Int)) = ((w - 1 - x : Nat) : Int) := by rw [w64 ((w : Int) - 1) (by omega) (by omega), w64 _ (by omega) (by omega)]; omega
        rw [if_pos hb, e1]
        clear e1
        rw [put_lv w1 w4 h1 h4 hm k (by omega) (show w - 1 - x < w by omega) hy, Option.bind_some]
        exact go _ (Nat.or_lt_two_pow hm (Nat.pow_lt_pow_right (by decide) hb2)) rfl
      · rw [if_neg hb] at go
        rw [if_neg hb]
        exact go m hm rfl
    · rw [if_neg hr] at go
      rw [if_neg (by omega)]
      simp only [spec_fiMirror.j2]
      rw [if_neg (by simp)]
      exact go m hm rfl
theorem mi_l0 : ∀ (d y k m : Nat), y + d = h + 1 → m < 2 ^ (w * (h + 1) + h * (w + 1)) → 81 + 20 * d ≤ k →
    spec_fiMirror.l0 k (y : Int) w h l2 l3 w h (segs w h m).1 (segs w h m).2 = some ((w : Int), (h : Int), (segs w h (orUp (maskN w h l2 l3) (miAll w h y d) m)).1, (segs w h (orUp (maskN w h l2 l3) (miAll w h y d) m)).2) := by
  intro d
  induction d with
  | zero =>
    intro y k m hy hm hk
    obtain ⟨k, rfl⟩ : ∃ p, k = p + 1 := ⟨k - 1, by omega⟩
    simp only [spec_fiMirror.l0]
    rw [if_neg (by omega)]
    rfl
  | succ d ih =>
    intro y k m hy hm hk
    obtain ⟨k, rfl⟩ : ∃ p, k = p + 1 := ⟨k - 1, by omega⟩
    simp only [spec_fiMirror.l0]
    rw [if_pos (by omega)]
    refine mi_l1 w1 w4 h1 h4 F (P := fun o => o = some ((w : Int), (h : Int), (segs w h (orUp (maskN w h l2 l3) (miAll w h y (d + 1)) m)).1, (segs w h (orUp (maskN w h l2 l3) (miAll w h y (d + 1)) m)).2)) (show y ≤ h by omega) (w + 1) 0 k (81 + 20 * d) m (by omega) hm (by omega) (fun k' hk' => ?_) (by omega)
    have hlt : orUp (maskN w h l2 l3) (miRow w h y 0 (w + 1)) m < 2 ^ (w * (h + 1) + h * (w + 1)) := by
      refine orUp_lt _ _ _ _ (fun p hp => ?_) hm
      have hin : ∀ (d' y' : Nat), y' ≤ y → y < y' + d' → p ∈ miAll w h y' d' := by
        intro d'
        induction d' with
        | zero => intro y' q1 q2; omega
        | succ d' ih' =>
          intro y' q1 q2
          rw [miAll, List.mem_append]
          by_cases e : y' = y
          · subst e; exact .inl hp
          · exact .inr (ih' (y' + 1) (by omega) (by omega))
      exact ((mi_ok w1 w4 h1 h4).1 p (hin (h + 1) 0 (by omega) (by omega))).2
    rw [ih (y + 1) k' _ (by omega) hlt hk', miAll, orUp_append]
theorem fiMirror_f (k : Nat) (hk : 200 ≤ k) : spec_fiMirror.f k w h l2 l3 = some ((w : Int), (h : Int), (segs w h (orUp (maskN w h l2 l3) (miAll w h 0 (h + 1)) 0)).1, (segs w h (orUp (maskN w h l2 l3) (miAll w h 0 (h + 1)) 0)).2) := by
  have := mi_l0 w1 w4 h1 h4 F (h + 1) 0 k 0 (by omega) (Nat.two_pow_pos _) (by omega)
  have e : segs w h 0 = ([], []) := by
    unfold segs
    have : ∀ off i d, segFrom off 0 i d = [] := fun off i d => List.eq_nil_iff_forall_not_mem.2 fun x hx => by
      obtain ⟨j, _, _, _, q⟩ := mem_seg.1 hx
      rw [Nat.zero_testBit] at q; cases q
    rw [this, this]
  rw [e] at this
  exact this
end

theorem mi_div {v n : Nat} (hn : 0 < n) : Int.tdiv (v : Int) (n : Int) = ((v / n : Nat) : Int) ∧ Int.tmod (v : Int) (n : Int) = ((v % n : Nat) : Int) := ⟨by rw [Int.tdiv_eq_ediv_of_nonneg (by omega)]; rfl, by rw [Int.tmod_eq_emod_of_nonneg (by omega)]; rfl⟩
section
variable {w h : Nat} (w1 : 1 ≤ w) (w4 : w ≤ 4) (h1 : 1 ≤ h) (h4 : h ≤ 4)
include w1 w4 h1 h4
theorem mi_up (u : Nat) (hu : u < h * (w + 1)) : impl_grid_upright.f (w : Int) (h : Int) (wrap64 ((w : Int) - (Int.tmod (u : Int) (wrap64 ((w : Int) + 1))))) (wrap64 (Int.tdiv (u : Int) (wrap64 ((w : Int) + 1)))) = some ((2 ^ mi2 w h u : Nat) : Int) ∧ mi2 w h u < 40 := by
  have g1 := lev_f w1 w4 h1 h4
  have hd : u / (w + 1) < h := Nat.div_lt_of_lt_mul (by rw [Nat.mul_comm]; exact hu)
  have hmd : u % (w + 1) < w + 1 := Nat.mod_lt _ (by omega)
  have hb : u / (w + 1) * (w + 1) ≤ 3 * 5 := Nat.mul_le_mul (by omega) (by omega)
  have hL : w * (h + 1) ≤ 20 := Nat.mul_le_mul w4 (show h + 1 ≤ 5 by omega)
  have e3 : wrap64 ((w : Int) + 1) = ((w + 1 : Nat) : Int) := by rw [w64 _ (by omega) (by omega)]; omega
  rw [e3]
  clear e3
  obtain ⟨e1, e2⟩ := mi_div (v := u) (n := w + 1) (by omega)
  rw [e1, e2]
  clear e1 e2
  unfold mi2
  clear hu
  generalize u / (w + 1) = q at *
  generalize u % (w + 1) = r at *
  refine ⟨?_, by omega⟩
  rw [w64 (q : Int) (by omega) (by omega), w64 ((w : Int) - (r : Int)) (by omega) (by omega), show (w : Int) - (r : Int) = ((w - r : Nat) : Int) by omega]
  unfold impl_grid_upright.f
  rw [g1, Option.bind_some]
  clear g1
  have e3 : wrap64 ((w : Int) + 1) = ((w + 1 : Nat) : Int) := by rw [w64 _ (by omega) (by omega)]; omega
  rw [e3]
  clear e3
  rw [show (q : Int) * ((w + 1 : Nat) : Int) = ((q * (w + 1) : Nat) : Int) by push_cast; rfl, w64 ((q * (w + 1) : Nat) : Int) (by omega) (by omega), w64 (((w * (h + 1) : Nat) : Int) + ((q * (w + 1) : Nat) : Int)) (by omega) (by omega), w64 _ (by omega) (by omega), if_pos (by omega), shl_one _ (by omega) (by omega)]
  congr 3
  omega
theorem mi_lv (k : Nat) (hk : k < w * (h + 1)) : impl_grid_level.f (w : Int) (h : Int) (wrap64 ((wrap64 ((w : Int) - 1)) - (Int.tmod (k : Int) (w : Int)))) (wrap64 (Int.tdiv (k : Int) (w : Int))) = some ((2 ^ mi1 w k : Nat) : Int) ∧ mi1 w k < 40 := by
  have hd : k / w ≤ h := by
    have := Nat.div_lt_of_lt_mul hk; omega
  have hmd : k % w < w := Nat.mod_lt _ (by omega)
  have hb : k / w * w ≤ 4 * 4 := Nat.mul_le_mul (by omega) w4
  obtain ⟨e1, e2⟩ := mi_div (v := k) (n := w) (by omega)
  rw [e1, e2]
  clear e1 e2
  unfold mi1
  clear hk
  generalize k / w = q at *
  generalize k % w = r at *
  refine ⟨?_, by omega⟩
  rw [w64 (q : Int) (by omega) (by omega), w64 ((w : Int) - 1) (by omega) (by omega), w64 _ (by omega) (by omega), show (w : Int) - 1 - (r : Int) = ((w - 1 - r : Nat) : Int) by omega]
  unfold impl_grid_level.f
  rw [show (q : Int) * (w : Int) = ((q * w : Nat) : Int) by push_cast; rfl, w64 ((q * w : Nat) : Int) (by omega) (by omega), w64 _ (by omega) (by omega), if_pos (by omega), shl_one _ (by omega) (by omega)]
  congr 3
variable {l2 l3 : List Int} (F : FigOK (w : Int) (h : Int) l2 l3)
include F
theorem mirrored_l1 : ∀ (d i k m : Nat), i + d = l3.length → d + 100 ≤ k → m < 4611686018427387904 → accT (mi2 w h) (l3.drop i) m < 2 ^ (w * (h + 1) + h * (w + 1)) →
    impl_mirrored.l1 k (m : Int) l3 (l3.length : Int) (i : Int) w h = some ((w : Int), (h : Int), (segs w h (accT (mi2 w h) (l3.drop i) m)).1, (segs w h (accT (mi2 w h) (l3.drop i) m)).2) := by
  have hK : w * (h + 1) ≤ 20 := (nums_nat w1 w4 h1 h4).1
  have hK2 : h * (w + 1) ≤ 20 := (nums_nat w1 w4 h1 h4).2.1
  have c2 : (h : Int) * ((w : Int) + 1) = ((h * (w + 1) : Nat) : Int) := by push_cast; rfl
  obtain ⟨_, _, s2, s3⟩ := F.small
  intro d
  induction d with
  | zero =>
    intro i k m hi hk hm hr
    obtain ⟨k, rfl⟩ : ∃ p, k = p + 1 := ⟨k - 1, by omega⟩
    rw [List.drop_of_length_le (by omega)] at hr ⊢
    simp only [impl_mirrored.l1]
    rw [if_neg (by omega), fig_f (w : Int) (h : Int) _ _ (nums_nat w1 w4 h1 h4).2.2.2.2.1 hK hK2 m hm hr k (by omega), Option.bind_some]
    rfl
  | succ d ih =>
    intro i k m hi hk hm hr
    obtain ⟨k, rfl⟩ : ∃ p, k = p + 1 := ⟨k - 1, by omega⟩
    have hlt : i < l3.length := by omega
    have hx := F.in3 _ (rd_mem (l := l3) (j := i) hlt)
    have e : rd l3 (i : Int) = l3[i] := by simp [rd, hlt]
    rw [List.drop_eq_getElem_cons hlt] at hr ⊢
    simp only [impl_mirrored.l1]
    rw [if_pos (by omega), if_pos (by omega), if_pos (by omega), if_neg (by rw [w64 ((w : Int) + 1) (by omega) (by omega)]; omega), e]
    rw [e, c2] at hx
    clear e
    generalize l3[i] = v at *
    obtain ⟨u, rfl⟩ := Int.eq_ofNat_of_zero_le hx.1
    obtain ⟨t1, t2⟩ := mi_up w1 w4 h1 h4 u (by omega)
    rw [t1, Option.bind_some, u64_or_nat m _ (by omega) (pow64 (by omega)), w64 ((i : Int) + 1) (by omega) (by omega), show ((i : Int) + 1) = ((i + 1 : Nat) : Int) by omega]
    exact ih (i + 1) k _ (by omega) (by omega) (Nat.or_lt_two_pow (n := 62) hm (Nat.lt_of_lt_of_le (Nat.pow_lt_pow_right (by decide) (show mi2 w h u < 62 by omega)) (by decide))) hr
theorem mirrored_l0 : ∀ (d i k m : Nat), i + d = l2.length → d + 200 ≤ k → m < 4611686018427387904 → accT (mi2 w h) l3 (accT (mi1 w) (l2.drop i) m) < 2 ^ (w * (h + 1) + h * (w + 1)) →
    impl_mirrored.l0 k (m : Int) l2 (l2.length : Int) (i : Int) w h l2 l3 w h = some ((w : Int), (h : Int), (segs w h (accT (mi2 w h) l3 (accT (mi1 w) (l2.drop i) m))).1, (segs w h (accT (mi2 w h) l3 (accT (mi1 w) (l2.drop i) m))).2) := by
  have c1 : (w : Int) * ((h : Int) + 1) = ((w * (h + 1) : Nat) : Int) := by push_cast; rfl
  obtain ⟨_, _, s2, s3⟩ := F.small
  intro d
  induction d with
  | zero =>
    intro i k m hi hk hm hr
    obtain ⟨k, rfl⟩ : ∃ p, k = p + 1 := ⟨k - 1, by omega⟩
    rw [List.drop_of_length_le (by omega)] at hr ⊢
    simp only [impl_mirrored.l0]
    rw [if_neg (by omega)]
    have := mirrored_l1 w1 w4 h1 h4 F l3.length 0 k m (by omega) (by omega) hm (by simpa [accT] using hr)
    simpa [accT] using this
  | succ d ih =>
    intro i k m hi hk hm hr
    obtain ⟨k, rfl⟩ : ∃ p, k = p + 1 := ⟨k - 1, by omega⟩
    have hlt : i < l2.length := by omega
    have hx := F.in2 _ (rd_mem (l := l2) (j := i) hlt)
    have e : rd l2 (i : Int) = l2[i] := by simp [rd, hlt]
    rw [List.drop_eq_getElem_cons hlt] at hr ⊢
    simp only [impl_mirrored.l0]
    rw [if_pos (by omega), if_pos (by omega), if_pos (by omega), if_neg (by omega), e]
    rw [e, c1] at hx
    clear e
    generalize l2[i] = v at *
    obtain ⟨u, rfl⟩ := Int.eq_ofNat_of_zero_le hx.1
    obtain ⟨t1, t2⟩ := mi_lv w1 w4 h1 h4 u (by omega)
    rw [t1, Option.bind_some, u64_or_nat m _ (by omega) (pow64 (by omega)), w64 ((i : Int) + 1) (by omega) (by omega), show ((i : Int) + 1) = ((i + 1 : Nat) : Int) by omega]
    exact ih (i + 1) k _ (by omega) (by omega) (Nat.or_lt_two_pow (n := 62) hm (Nat.lt_of_lt_of_le (Nat.pow_lt_pow_right (by decide) (show mi1 w u < 62 by omega)) (by decide))) hr
theorem mi_same : accT (mi2 w h) l3 (accT (mi1 w) l2 0) = orUp (maskN w h l2 l3) (miAll w h 0 (h + 1)) 0 := by
  have c1 : (w : Int) * ((h : Int) + 1) = ((w * (h + 1) : Nat) : Int) := by push_cast; rfl
  have c2 : (h : Int) * ((w : Int) + 1) = ((h * (w + 1) : Nat) : Int) := by push_cast; rfl
  obtain ⟨T1, T2, T3⟩ := mi_ok w1 w4 h1 h4
  apply Nat.eq_of_testBit_eq
  intro j
  rw [Bool.eq_iff_iff, accT_bit, accT_bit, orUp_bit, Nat.zero_testBit]
  constructor
  · rintro ((a | ⟨x, hx, e⟩) | ⟨x, hx, e⟩)
    · cases a
    · have := F.in2 x hx
      rw [c1] at this
      obtain ⟨s, rfl⟩ := Int.eq_ofNat_of_zero_le this.1
      rw [Int.toNat_natCast] at e
      exact .inr ⟨s, e ▸ T2 s (List.mem_range.2 (by omega)), (mask_low F s (by omega)).2 hx⟩
    · have := F.in3 x hx
      rw [c2] at this
      obtain ⟨s, rfl⟩ := Int.eq_ofNat_of_zero_le this.1
      rw [Int.toNat_natCast] at e
      exact .inr ⟨w * (h + 1) + s, e ▸ T3 s (List.mem_range.2 (by omega)), (mask_high F s).2 hx⟩
  · rintro (a | ⟨s, hs, hb⟩)
    · cases a
    · rcases (T1 _ hs).1 with ⟨q1, q2⟩ | ⟨q1, q3, q2⟩
      · simp only at q1 q2
        exact .inl (.inr ⟨(s : Int), (mask_low F s q1).1 hb, by rw [Int.toNat_natCast, q2]⟩)
      · simp only at q1 q2
        obtain ⟨u, rfl⟩ : ∃ u, s = w * (h + 1) + u := ⟨s - w * (h + 1), by omega⟩
        refine .inr ⟨(u : Int), (mask_high F u).1 hb, ?_⟩
        rw [Int.toNat_natCast, q2]
        congr 1
        omega
theorem mirrored_f (k : Nat) (hk : 300 ≤ k) : impl_mirrored.f k w h l2 l3 = some ((w : Int), (h : Int), (segs w h (orUp (maskN w h l2 l3) (miAll w h 0 (h + 1)) 0)).1, (segs w h (orUp (maskN w h l2 l3) (miAll w h 0 (h + 1)) 0)).2) := by
  obtain ⟨_, _, s2, s3⟩ := F.small
  have e := mi_same w1 w4 h1 h4 F
  have := mirrored_l0 w1 w4 h1 h4 F l2.length 0 k 0 (by omega) (by omega) (by omega) (by
    rw [List.drop_zero, e]
    exact orUp_lt _ _ _ _ (fun p hp => ((mi_ok w1 w4 h1 h4).1 p hp).2) (Nat.two_pow_pos _))
  rw [List.drop_zero, e] at this
  unfold impl_mirrored.f impl_Figure_grid.f
  exact this
end

/-! A figure's text. -/
def B8 (l : List UInt8) : ByteArray := ⟨l.toArray⟩
theorem B8_app (a b : List UInt8) : B8 a ++ B8 b = B8 (a ++ b) := by
  apply ByteArray.ext
  simp [B8, ByteArray.data_append]
theorem B8_size (l : List UInt8) : (B8 l).size = l.length := by simp [B8, ByteArray.size]
def sg (b : Bool) (c : UInt8) : UInt8 := if b = true then c else 46
def tx (p : Nat → Bool) (c : UInt8) : Nat → Nat → List UInt8
  | _, 0 => []
  | i, d + 1 => sg (p i) c :: tx p c (i + 1) d
theorem tx_len (p : Nat → Bool) (c : UInt8) : ∀ d i, (tx p c i d).length = d
  | 0, _ => rfl
  | d + 1, i => by simp [tx, tx_len p c d]
theorem wa1 {a : Nat} (h : a ≤ 1000) : wrap64 ((a : Int) + 1) = ((a + 1 : Nat) : Int) := by rw [w64 _ (by omega) (by omega)]; omega
section
variable {w h : Nat} (w1 : 1 ≤ w) (w4 : w ≤ 4) (h1 : 1 ≤ h) (h4 : h ≤ 4) {l2 l3 : List Int} (F : FigOK (w : Int) (h : Int) l2 l3)
include w1 w4 h1 h4 F
def lvB (w h : Nat) (l2 l3 : List Int) (y x : Nat) : Bool := (maskN w h l2 l3).testBit (y * w + x)
def upB (w h : Nat) (l2 l3 : List Int) (y x : Nat) : Bool := (maskN w h l2 l3).testBit (w * (h + 1) + (y * (w + 1) + x))
theorem txt_l1 {y : Nat} (hy : y ≤ h) : ∀ (d x K : Nat) (L : List UInt8), x + d = w → 31 ≤ K → L.length + d ≤ 1000 →
    spec_fiText.l1 (K + d + 1) (B8 L) y x w h l2 l3 = if y = h then some (B8 (L ++ tx (lvB w h l2 l3 y) 45 x d)) else spec_fiText.l2 K (B8 (L ++ tx (lvB w h l2 l3 y) 45 x d ++ [47])) y 0 w h l2 l3
  | 0, x, K, L, hx, hK, hL => by
    simp only [spec_fiText.l1, tx, List.append_nil]
    rw [if_neg (by omega)]
    by_cases e : y = h
    · rw [if_pos (by omega), if_pos e]
    · rw [if_neg (by omega), if_neg e, if_pos (by rw [B8_size]; omega)]
      rw [show (⟨#[47]⟩ : ByteArray) = B8 [47] from rfl, B8_app]
  | d + 1, x, K, L, hx, hK, hL => by
    have hsz : (B8 L).size + 1 ≤ 9223372036854775807 := by rw [B8_size]; omega
    have hm0 : 31 ≤ K + d + 1 := by omega
    rw [show K + (d + 1) + 1 = (K + d + 1) + 1 by omega]
    generalize hm : K + d + 1 = m at hm0 ⊢
    simp only [spec_fiText.l1]
    rw [if_pos (by omega), has_lv w1 w4 h1 h4 F m hm0 (by omega) hy, Option.bind_some, wa1 (by omega)]
    have ih := fun c => txt_l1 hy d (x + 1) K (L ++ [c]) (by omega) hK (by simp; omega)
    rw [hm] at ih
    cases hb : (maskN w h l2 l3).testBit (y * w + x) with
    | true =>
      rw [if_pos rfl, if_pos hsz, show (⟨#[45]⟩ : ByteArray) = B8 [45] from rfl, B8_app, ih]
      simp only [tx, lvB, hb, sg, if_true, List.append_assoc, List.singleton_append, List.cons_append, List.nil_append]
    | false =>
      rw [if_neg (by decide), if_pos hsz, show (⟨#[46]⟩ : ByteArray) = B8 [46] from rfl, B8_app, ih]
      simp only [tx, lvB, hb, sg, Bool.false_eq_true, if_false, List.append_assoc, List.singleton_append, List.cons_append, List.nil_append]
theorem txt_l2 {y : Nat} (hy : y < h) : ∀ (d x K : Nat) (L : List UInt8), x + d = w + 1 → 31 ≤ K → L.length + d ≤ 1000 →
    spec_fiText.l2 (K + d + 1) (B8 L) y x w h l2 l3 = spec_fiText.l0 K (B8 (L ++ tx (upB w h l2 l3 y) 124 x d)) ((y + 1 : Nat) : Int) w h l2 l3
  | 0, x, K, L, hx, hK, hL => by
    simp only [spec_fiText.l2, tx, List.append_nil]
    rw [if_neg (by omega), wa1 (by omega)]
  | d + 1, x, K, L, hx, hK, hL => by
    have hsz : (B8 L).size + 1 ≤ 9223372036854775807 := by rw [B8_size]; omega
    have hm0 : 31 ≤ K + d + 1 := by omega
    rw [show K + (d + 1) + 1 = (K + d + 1) + 1 by omega]
    generalize hm : K + d + 1 = m at hm0 ⊢
    simp only [spec_fiText.l2]
    rw [if_pos (by omega), has_up w1 w4 h1 h4 F m hm0 (by omega) hy, Option.bind_some, wa1 (by omega)]
    have ih := fun c => txt_l2 hy d (x + 1) K (L ++ [c]) (by omega) hK (by simp; omega)
    rw [hm] at ih
    cases hb : (maskN w h l2 l3).testBit (w * (h + 1) + (y * (w + 1) + x)) with
    | true =>
      rw [if_pos rfl, if_pos hsz, show (⟨#[124]⟩ : ByteArray) = B8 [124] from rfl, B8_app, ih]
      simp only [tx, upB, hb, sg, if_true, List.append_assoc, List.singleton_append, List.cons_append, List.nil_append]
    | false =>
      rw [if_neg (by decide), if_pos hsz, show (⟨#[46]⟩ : ByteArray) = B8 [46] from rfl, B8_app, ih]
      simp only [tx, upB, hb, sg, Bool.false_eq_true, if_false, List.append_assoc, List.singleton_append, List.cons_append, List.nil_append]
def body (w h : Nat) (l2 l3 : List Int) : Nat → Nat → List UInt8
  | _, 0 => []
  | y, d + 1 => (if y > 0 then [47] else []) ++ tx (lvB w h l2 l3 y) 45 0 w ++ (if y = h then [] else 47 :: tx (upB w h l2 l3 y) 124 0 (w + 1)) ++ body w h l2 l3 (y + 1) d
theorem txt_l0 : ∀ (d y k : Nat) (L : List UInt8), y + d = h + 1 → 33 + 20 * d ≤ k → L.length + 12 * d ≤ 900 → spec_fiText.l0 k (B8 L) y w h l2 l3 = some (B8 (L ++ body w h l2 l3 y d))
  | 0, y, k, L, hy, hk, hL => by
    obtain ⟨k, rfl⟩ : ∃ m, k = m + 1 := ⟨k - 1, by omega⟩
    simp only [spec_fiText.l0, body, List.append_nil]
    rw [if_neg (by omega)]
  | d + 1, y, k, L, hy, hk, hL => by
    obtain ⟨k, rfl⟩ : ∃ m, k = m + 2 := ⟨k - 2, by omega⟩
    have hj : ∀ L' : List UInt8, L'.length + 1 + 12 * d + 11 ≤ 901 → spec_fiText.j1 (k + 1) (B8 L') y w h l2 l3 = some (B8 (L' ++ (tx (lvB w h l2 l3 y) 45 0 w ++ (if y = h then [] else 47 :: tx (upB w h l2 l3 y) 124 0 (w + 1)) ++ body w h l2 l3 (y + 1) d))) := by
      intro L' hL'
      obtain ⟨K, rfl⟩ : ∃ K, k = K + w + 1 := ⟨k - w - 1, by omega⟩
      simp only [spec_fiText.j1]
      have h1' := txt_l1 w1 w4 h1 h4 F (y := y) (by omega) w 0 K L' (by omega) (by omega) (by omega)
      rw [show ((0 : Nat) : Int) = 0 from rfl] at h1'
      rw [h1']
      by_cases e : y = h
      · have : d = 0 := by omega
        subst this
        rw [if_pos e, if_pos e]
        simp [body]
      · rw [if_neg e, if_neg e]
        obtain ⟨K2, rfl⟩ : ∃ K2, K = K2 + (w + 1) + 1 := ⟨K - (w + 1) - 1, by omega⟩
        have h2' := txt_l2 w1 w4 h1 h4 F (y := y) (by omega) (w + 1) 0 K2 (L' ++ tx (lvB w h l2 l3 y) 45 0 w ++ [47]) (by omega) (by omega) (by simp [tx_len]; omega)
        rw [show ((0 : Nat) : Int) = 0 from rfl] at h2'
        rw [h2', txt_l0 d (y + 1) K2 _ (by omega) (by omega) (by simp [tx_len]; omega)]
        simp
    rw [show k + 2 = (k + 1) + 1 by omega]
    simp only [spec_fiText.l0]
    rw [if_pos (by omega)]
    by_cases e0 : y > 0
    · rw [if_pos (by omega), if_pos (by rw [B8_size]; omega), show (⟨#[47]⟩ : ByteArray) = B8 [47] from rfl, B8_app, hj _ (by simp; omega)]
      simp [body, e0]
    · rw [if_neg (by omega), hj _ (by omega)]
      simp [body, e0]
theorem fiText_f (k : Nat) (hk : 200 ≤ k) : spec_fiText.f k w h l2 l3 = some (B8 (body w h l2 l3 0 (h + 1))) := by
  have := txt_l0 w1 w4 h1 h4 F (h + 1) 0 k [] (by omega) (by omega) (by simp; omega)
  unfold spec_fiText.f
  rw [show ((0 : Nat) : Int) = 0 from rfl] at this
  rw [show (⟨#[]⟩ : ByteArray) = B8 [] from rfl, this, List.nil_append]
end

/-! The program's text of a figure is the reference's. -/
theorem and_zero {m j : Nat} : (m &&& 2 ^ j = 0) ↔ m.testBit j = false := by
  constructor
  · intro h
    have := congrArg (fun n => n.testBit j) h
    simpa [Nat.testBit_and, Nat.testBit_two_pow_self] using this
  · intro h
    apply Nat.eq_of_testBit_eq
    intro i
    rw [Nat.testBit_and, Nat.zero_testBit, Nat.testBit_two_pow]
    by_cases e : j = i
    · subst e; simp [h]
    · simp [e]
theorem ftB_test {m j : Nat} (hm : m < 18446744073709551616) (hj : j < 64) : ftB (m : Int) (shl .u64 1 (j : Int)) = m.testBit j := by
  unfold ftB
  rw [shl_one _ (by omega) (by omega), Int.toNat_natCast, u64_and_nat m (2 ^ j) hm (pow64 hj)]
  cases h : m.testBit j with
  | true =>
    have : m &&& 2 ^ j ≠ 0 := fun e => by rw [and_zero.1 e] at h; cases h
    simp only [bne_iff_ne, ne_eq]
    omega
  | false =>
    rw [and_zero.2 h]
    rfl
theorem tx_snoc (p : Nat → Bool) (c : UInt8) : ∀ (d i : Nat), tx p c i (d + 1) = tx p c i d ++ [sg (p (i + d)) c]
  | 0, i => by simp [tx]
  | d + 1, i => by
    rw [tx, tx_snoc p c d (i + 1), tx]
    simp only [List.cons_append]
    rw [show i + 1 + d = i + (d + 1) by omega]
theorem line_tx (s c : Int) (c' : UInt8) (hc : UInt8.ofNat c.toNat = c') (ed : Int → Int) (p : Nat → Bool) : ∀ n : Nat, (∀ i : Nat, i < n → ftB s (ed (i : Int)) = p i) → (ftLine s c ed n).map (fun q : Int => UInt8.ofNat q.toNat) = tx p c' 0 n
  | 0, _ => rfl
  | n + 1, h => by
    rw [ftLine, List.map_append, line_tx s c c' hc ed p n (fun i hi => h i (by omega)), tx_snoc, Nat.zero_add]
    congr 1
    simp only [List.map_cons, List.map_nil, ftSign, h n (by omega)]
    cases p n
    · rfl
    · simp [sg, hc]
def rowsF (w h : Nat) (l2 l3 : List Int) : Nat → Nat → List (List UInt8)
  | _, 0 => []
  | y, d + 1 => tx (lvB w h l2 l3 y) 45 0 w :: ((if y < h then [tx (upB w h l2 l3 y) 124 0 (w + 1)] else []) ++ rowsF w h l2 l3 (y + 1) d)
section
variable {w h : Nat} {l2 l3 : List Int}
theorem rowsF_snoc : ∀ (d y : Nat), rowsF w h l2 l3 y (d + 1) = rowsF w h l2 l3 y d ++ (tx (lvB w h l2 l3 (y + d)) 45 0 w :: (if y + d < h then [tx (upB w h l2 l3 (y + d)) 124 0 (w + 1)] else []))
  | 0, y => by simp [rowsF]
  | d + 1, y => by
    rw [rowsF, rowsF_snoc d (y + 1), rowsF, show y + 1 + d = y + (d + 1) by omega]
    simp only [List.cons_append, List.append_assoc]
theorem tail_body : ∀ (d y : Nat), y + d = h + 1 → 0 < y → Lib.joinTail [47] (rowsF w h l2 l3 y d) = body w h l2 l3 y d
  | 0, y, _, _ => rfl
  | d + 1, y, hy, h0 => by
    have ih := tail_body d (y + 1) (by omega) (by omega)
    unfold Lib.joinTail at ih ⊢
    rw [rowsF, List.map_cons, List.flatten_cons, List.map_append, List.flatten_append, ih, body, if_pos h0]
    by_cases e : y < h
    · rw [if_pos e, if_neg (by omega)]; simp
    · rw [if_neg e, if_pos (by omega)]; simp
theorem join_body : Lib.join (rowsF w h l2 l3 0 (h + 1)) [47] = body w h l2 l3 0 (h + 1) := by
  have ih := tail_body (w := w) (h := h) (l2 := l2) (l3 := l3) h 1 (by omega) (by omega)
  rw [rowsF, Lib.join_cons, body]
  unfold Lib.joinTail at ih ⊢
  rw [List.map_append, List.flatten_append, ih]
  by_cases e : 0 < h
  · have e2 : ¬ 0 = h := by omega
    simp [e, e2]
  · have e2 : h = 0 := by omega
    subst e2
    simp
end
section
variable {w h : Nat} (w1 : 1 ≤ w) (w4 : w ≤ 4) (h1 : 1 ≤ h) (h4 : h ≤ 4) {l2 l3 : List Int} (F : FigOK (w : Int) (h : Int) l2 l3)
include w1 w4 h1 h4 F
theorem row_lev {y : Nat} (hy : y ≤ h) : (strOfNums (ftLine ((maskN w h l2 l3 : Nat) : Int) 45 (ftLev w y) w)).data.toList = tx (lvB w h l2 l3 y) 45 0 w := by
  have hm := mask_62 w1 w4 h1 h4 F
  have hb : y * w ≤ 16 := Nat.mul_le_mul (show y ≤ 4 by omega) w4
  simp only [strOfNums]
  refine line_tx _ _ _ rfl _ _ w (fun i hi => ?_)
  unfold ftLev lvB
  rw [ft_lev_eq w4 (by omega) (by omega)]
  exact ftB_test (by omega) (by omega)
theorem row_up {y : Nat} (hy : y < h) : (strOfNums (ftLine ((maskN w h l2 l3 : Nat) : Int) 124 (ftUp w h y) (w + 1))).data.toList = tx (upB w h l2 l3 y) 124 0 (w + 1) := by
  have hm := mask_62 w1 w4 h1 h4 F
  have hb : y * (w + 1) ≤ 15 := Nat.mul_le_mul (show y ≤ 3 by omega) (show w + 1 ≤ 5 by omega)
  have hb2 : w * (h + 1) ≤ 20 := Nat.mul_le_mul w4 (show h + 1 ≤ 5 by omega)
  simp only [strOfNums]
  refine line_tx _ _ _ rfl _ _ (w + 1) (fun i hi => ?_)
  unfold ftUp upB
  rw [ft_up_eq w4 h4 (by omega) (by omega), ← Nat.add_assoc]
  exact ftB_test (by omega) (by omega)
theorem rows_eq : ∀ y : Nat, y ≤ h + 1 → (ftRows w h ((maskN w h l2 l3 : Nat) : Int) y).map (·.data.toList) = rowsF w h l2 l3 0 y
  | 0, _ => rfl
  | y + 1, hy => by
    rw [ftRows, List.map_append, rows_eq y (by omega), rowsF_snoc, Nat.zero_add, List.map_cons, row_lev w1 w4 h1 h4 F (by omega)]
    by_cases e : y < h
    · rw [if_pos e, if_pos e, List.map_cons, List.map_nil, row_up w1 w4 h1 h4 F e]
    · rw [if_neg e, if_neg e, List.map_nil]
theorem figureText_f (k : Nat) (hk : 100 ≤ k) : impl_figureText.f k w h l2 l3 = some (B8 (body w h l2 l3 0 (h + 1))) := by
  obtain ⟨_, _, hs2, hs3⟩ := F.small
  unfold impl_figureText.f
  rw [if_pos (by omega), set_f F (by omega) (by omega) k (by omega), Option.bind_some, Int.toNat_natCast, Int.toNat_natCast]
  unfold ftJoin
  rw [rows_eq w1 w4 h1 h4 F _ (Nat.le_refl _), join_body]
  rfl
end

/-! The eight ways: turning and mirroring, as places that go to places. -/
def compE (A B : List (Nat × Nat)) : List (Nat × Nat) := A.flatMap fun p => (B.filter fun q => q.1 == p.2).map fun q => (p.1, q.2)
theorem mem_compE {A B : List (Nat × Nat)} {s j : Nat} : (s, j) ∈ compE A B ↔ ∃ t, (s, t) ∈ A ∧ (t, j) ∈ B := by
  unfold compE
  simp only [List.mem_flatMap, List.mem_map, List.mem_filter, beq_iff_eq]
  constructor
  · rintro ⟨⟨a, b⟩, h1, ⟨c, d⟩, ⟨h2, h3⟩, h4⟩
    simp only [Prod.mk.injEq] at h4
    simp only at h3
    obtain ⟨rfl, rfl⟩ := h4
    subst h3
    exact ⟨_, h1, h2⟩
  · rintro ⟨t, h1, h2⟩
    exact ⟨(s, t), h1, (t, j), ⟨h2, rfl⟩, rfl⟩
theorem orUp_ext {A B : List (Nat × Nat)} (h : ∀ s j, (s, j) ∈ A ↔ (s, j) ∈ B) (m : Nat) : orUp m A 0 = orUp m B 0 := by
  apply Nat.eq_of_testBit_eq
  intro j
  rw [Bool.eq_iff_iff, orUp_bit, orUp_bit]
  simp only [h]
theorem orUp_comp (A B : List (Nat × Nat)) (m : Nat) : orUp (orUp m A 0) B 0 = orUp m (compE A B) 0 := by
  apply Nat.eq_of_testBit_eq
  intro j
  rw [Bool.eq_iff_iff, orUp_bit, orUp_bit]
  simp only [Nat.zero_testBit, Bool.false_eq_true, false_or, mem_compE]
  constructor
  · rintro ⟨t, h1, h2⟩
    obtain ⟨s, h3, h4⟩ := (by simpa [orUp_bit] using h2 : ∃ s, (s, t) ∈ A ∧ m.testBit s = true)
    exact ⟨s, ⟨t, h3, h1⟩, h4⟩
  · rintro ⟨s, ⟨t, h3, h1⟩, h4⟩
    exact ⟨t, h1, (by simpa [orUp_bit] using ⟨s, h3, h4⟩)⟩
def subE (A B : List (Nat × Nat)) : Bool := A.all fun p => B.contains p
theorem same_of_subE {A B : List (Nat × Nat)} (h : (subE A B && subE B A) = true) : ∀ s j, (s, j) ∈ A ↔ (s, j) ∈ B := by
  simp only [subE, Bool.and_eq_true, List.all_eq_true] at h
  exact fun s j => ⟨fun q => by simpa using h.1 _ q, fun q => by simpa using h.2 _ q⟩
def TL (w h : Nat) : List (Nat × Nat) := tuAll w h 0 (h + 1)
def ML (w h : Nat) : List (Nat × Nat) := miAll w h 0 (h + 1)
/-- M T = T T T M, M T T = T T M, M T T T = T M: w, h the figure's -/
def groupB (w h : Nat) : Bool :=
  let t1 := TL w h; let t2 := compE t1 (TL h w); let t3 := compE t2 (TL w h); let m := ML w h
  let n1 := compE m (TL w h); let n2 := compE n1 (TL h w); let n3 := compE n2 (TL w h)
  let a1 := compE t1 (ML h w); let a2 := compE t2 (ML w h); let a3 := compE t3 (ML h w)
  subE a1 n3 && subE n3 a1 && (subE a2 n2 && subE n2 a2) && (subE a3 n1 && subE n1 a3)
theorem group_all : ∀ w h : Fin 4, groupB (w.val + 1) (h.val + 1) = true := by decide +kernel
def Tm (w h m : Nat) : Nat := orUp m (TL w h) 0
def Mm (w h m : Nat) : Nat := orUp m (ML w h) 0
theorem group8 {w h : Nat} (w1 : 1 ≤ w) (w4 : w ≤ 4) (h1 : 1 ≤ h) (h4 : h ≤ 4) (m : Nat) :
    Mm h w (Tm w h m) = Tm w h (Tm h w (Tm w h (Mm w h m))) ∧ Mm w h (Tm h w (Tm w h m)) = Tm h w (Tm w h (Mm w h m)) ∧ Mm h w (Tm w h (Tm h w (Tm w h m))) = Tm w h (Mm w h m) := by
  have g := group_all ⟨w - 1, by omega⟩ ⟨h - 1, by omega⟩
  simp only [show w - 1 + 1 = w by omega, show h - 1 + 1 = h by omega] at g
  simp only [groupB, Bool.and_eq_true] at g
  obtain ⟨⟨⟨a, b⟩, c, d⟩, e, f⟩ := g
  unfold Mm Tm
  simp only [orUp_comp]
  exact ⟨orUp_ext (same_of_subE (by rw [a, b]; rfl)) m, orUp_ext (same_of_subE (by rw [c, d]; rfl)) m, orUp_ext (same_of_subE (by rw [e, f]; rfl)) m⟩

/-! The law's measure of its arguments: a list each is taken off what is left. -/
theorem sz_int (l : List Int) (a : Int) (h0 : 0 ≤ a) (ha : a ≤ 1000000) (hl : l.length ≤ maxLen) : ∃ r, laws_szIntS.f l a = some r ∧ (0 ≤ r → r = a - l.length) ∧ r ≤ 1000000 := by
  unfold laws_szIntS.f
  unfold maxLen at hl
  rw [w64 _ (by omega) (by omega)]
  by_cases hc : a - (l.length : Int) < 0
  · rw [if_pos hc]; exact ⟨_, rfl, by omega, by omega⟩
  · rw [if_neg hc]; exact ⟨_, rfl, fun _ => rfl, by omega⟩
theorem sz_fig (w h : Int) (l2 l3 : List Int) (a : Int) (h0 : 0 ≤ a) (ha : a ≤ 1000000) (h2 : l2.length ≤ maxLen) (h3 : l3.length ≤ maxLen) : ∃ r, laws_szFigure.f w h l2 l3 a = some r ∧ (0 ≤ r → r = a - l2.length - l3.length) ∧ r ≤ 1000000 := by
  unfold laws_szFigure.f
  obtain ⟨r, hr, i, j⟩ := sz_int l2 a h0 ha h2
  rw [hr]
  simp only [Option.bind_some]
  by_cases hc : r < 0
  · rw [if_pos hc]; exact ⟨_, rfl, by omega, by omega⟩
  · rw [if_neg hc]
    obtain ⟨s, hs, i2, j2⟩ := sz_int l3 r (by omega) j h3
    rw [hs]
    simp only [Option.bind_some]
    by_cases hd : s < 0
    · rw [if_pos hd]; exact ⟨_, rfl, by omega, by omega⟩
    · rw [if_neg hd]; exact ⟨_, rfl, fun _ => by rw [i2 (by omega), i (by omega)], by omega⟩

theorem sz_puzzle (w h : Int) (l2 l3 : List Int) (d4 : Int) (d5 : Bool) (d6 a : Int) (h0 : 0 ≤ a) (ha : a ≤ 1000000) (h2 : l2.length ≤ maxLen) (h3 : l3.length ≤ maxLen) : ∃ r, laws_szPuzzle.f w h l2 l3 d4 d5 d6 a = some r ∧ (0 ≤ r → r = a - l2.length - l3.length) ∧ r ≤ 1000000 := by
  unfold laws_szPuzzle.f
  obtain ⟨r, hr, i, j⟩ := sz_fig w h l2 l3 a h0 ha h2 h3
  rw [hr]
  simp only [Option.bind_some]
  by_cases hc : r < 0
  · rw [if_pos hc]; exact ⟨_, rfl, by omega, by omega⟩
  · rw [if_neg hc]; exact ⟨_, rfl, fun _ => i (by omega), by omega⟩

section
variable {H : Type} {enc : TypeId × Value → H} {P : Program} {W : World} {base : Nat} {held : Bool}
theorem open_row {t e : TypeId} {fuel : Nat} {v : Value} {x : DataW H × List MemPlace} (ht : P.underlying t = some (.slice e)) (he : P.underlying e = some (.int .i64)) (hc : P.cellsOf e = 1)
    (h : DataW.trod enc P W base (fun _ => true) held fuel t [v] = some x) :
    ∃ (A : Option Addr) (c : Nat) (l : List Int), v = .slice A l.length c ∧ l.length ≤ c ∧ l.length ≤ maxLen ∧ Kd.C (Kd.int .i64) W A l.length l ∧ ∀ n ∈ l, (Lit.int .i64 n).wf = true := by
  rcases open_ints ht he hc h with ⟨hcs, _⟩ | ⟨a, len, cap, zs, hcs, _, hl, hm, hz, _, hcell, hwf⟩
  · simp only [List.cons.injEq, and_true] at hcs
    subst hcs
    exact ⟨none, 0, [], rfl, Nat.le_refl _, Nat.zero_le _, Kd.C_nil _ _, fun n hn => by cases hn⟩
  · simp only [List.cons.injEq, and_true] at hcs
    subst hcs
    have hz2 : zs.length = cap := by simpa using hz
    have hlen : (zs.take len).length = len := by rw [List.length_take]; omega
    refine ⟨some a, cap, zs.take len, by rw [hlen], by omega, by omega, ?_, fun n hn => hwf n (List.mem_of_mem_take hn)⟩
    refine Kd.C_of_reads (d := (0 : Int)) (h1 := fun _ => rfl) ⟨rfl, by unfold maxLen at hm; omega, fun _ => ⟨a, rfl, fun j hj => ?_⟩⟩
    rw [hcell j (by omega)]
    rw [List.getD_eq_getElem?_getD, List.getD_eq_getElem?_getD, List.getElem?_take_of_lt (by omega)]
theorem open_num {t : TypeId} {fuel : Nat} {v : Value} {x : DataW H × List MemPlace} (ht : P.underlying t = some (.int .i64)) (h : DataW.trod enc P W base (fun _ => true) held fuel t [v] = some x) :
    ∃ n : Int, v = .int .i64 n ∧ (Lit.int .i64 n).wf = true := by
  obtain ⟨n, hv, _, hw⟩ := DataW.trod_int ht h
  simp only [List.cons.injEq, and_true] at hv
  exact ⟨n, hv, hw⟩
end
theorem cells1 : Tryd.prog.cellsOf 3 = 1 := by kernel_rfl
theorem cells2 : Tryd.prog.cellsOf 22 = 1 := by kernel_rfl
theorem cells3 : Tryd.prog.cellsOf 24 = 4 := by kernel_rfl
/-- a figure that came in, as cells -/
structure FigIn (W : World) (cs : List Value) (a0 a1 : Int) (A2 : Option Addr) (c2 : Nat) (l2 : List Int) (A3 : Option Addr) (c3 : Nat) (l3 : List Int) : Prop where
  cells : cs = [.int .i64 a0, .int .i64 a1, .slice A2 l2.length c2, .slice A3 l3.length c3]
  w0 : (Lit.int .i64 a0).wf = true
  w1 : (Lit.int .i64 a1).wf = true
  hc2 : l2.length ≤ c2
  hm2 : l2.length ≤ maxLen
  hr2 : Kd.C (Kd.int .i64) W A2 l2.length l2
  w2 : ∀ n ∈ l2, (Lit.int .i64 n).wf = true
  hc3 : l3.length ≤ c3
  hm3 : l3.length ≤ maxLen
  hr3 : Kd.C (Kd.int .i64) W A3 l3.length l3
  w3 : ∀ n ∈ l3, (Lit.int .i64 n).wf = true
/-- what the pure part may lean on: an argument that the law measures -/
structure FigW (a0 a1 : Int) (l2 l3 : List Int) : Prop where
  n2 : l2.length ≤ 1000000
  n3 : l3.length ≤ 1000000
  b0 : -9223372036854775808 ≤ a0 ∧ a0 ≤ 9223372036854775807
  b1 : -9223372036854775808 ≤ a1 ∧ a1 ≤ 9223372036854775807
theorem wf_range {n : Int} (h : (Lit.int .i64 n).wf = true) : -9223372036854775808 ≤ n ∧ n ≤ 9223372036854775807 := by
  have h2 : IntKind.i64.min ≤ n ∧ n ≤ IntKind.i64.max := by simpa [Lit.wf] using h
  exact h2
theorem FigIn.w {W : World} {cs : List Value} {a0 a1 : Int} {A2 : Option Addr} {c2 : Nat} {l2 : List Int} {A3 : Option Addr} {c3 : Nat} {l3 : List Int} (F : FigIn W cs a0 a1 A2 c2 l2 A3 c3 l3) (h2 : l2.length ≤ 1000000) (h3 : l3.length ≤ 1000000) : FigW a0 a1 l2 l3 :=
  ⟨h2, h3, wf_range F.w0, wf_range F.w1⟩
set_option maxRecDepth 100000 in
theorem open_fig {H : Type} {enc : TypeId × Value → H} {W : World} {base : Nat} {held : Bool} {fuel : Nat} {cs : List Value} {x : DataW H × List MemPlace} (h : DataW.trod enc Tryd.prog W base (fun _ => true) held fuel 24 cs = some x) :
    ∃ a0 a1 A2 c2 l2 A3 c3 l3, FigIn W cs a0 a1 A2 c2 l2 A3 c3 l3 := by
  obtain ⟨y0, y1, y2, y3, n, _, hl, h0, h1, h2, h3⟩ := trod_struct4 Tryd.underlying24 h
  rw [cells3] at hl
  match cs, hl with
  | [k0, k1, k2, k3], _ =>
    simp only [cells1, cells2, List.drop, List.take] at h0 h1 h2 h3
    obtain ⟨a0, rfl, w0⟩ := open_num Tryd.underlying3 h0
    obtain ⟨a1, rfl, w1⟩ := open_num Tryd.underlying3 h1
    obtain ⟨A2, c2, l2, rfl, hc2, hm2, hr2, w2⟩ := open_row Tryd.underlying22 Tryd.underlying3 cells1 h2
    obtain ⟨A3, c3, l3, rfl, hc3, hm3, hr3, w3⟩ := open_row Tryd.underlying22 Tryd.underlying3 cells1 h3
    exact ⟨a0, a1, A2, c2, l2, A3, c3, l3, rfl, w0, w1, hc2, hm2, hr2, w2, hc3, hm3, hr3, w3⟩

set_option maxRecDepth 100000 in
theorem open_figarg {H : Type} {enc : TypeId × Value → H} {W : World} {base : Nat} {held : Bool} {r : Reach} {b0 : Nat} {v : Value} {d : DataW H} {p : List MemPlace} (hv : Value.okWide Tryd.prog W r b0 24 v) (h : DataW.Trod enc Tryd.prog W base (fun _ => true) held 24 v d p) :
    ∃ a0 a1 A2 c2 l2 A3 c3 l3, v = .agg #[.int .i64 a0, .int .i64 a1, .slice A2 l2.length c2, .slice A3 l3.length c3] ∧ FigIn W [.int .i64 a0, .int .i64 a1, .slice A2 l2.length c2, .slice A3 l3.length c3] a0 a1 A2 c2 l2 A3 c3 l3 := by
  obtain ⟨cs, rfl, hsz⟩ := okWide_struct Tryd.underlying24 hv
  obtain ⟨fuel, hf⟩ := h
  obtain ⟨a0, a1, A2, c2, l2, A3, c3, l3, F⟩ := open_fig hf
  have hc := F.cells
  refine ⟨a0, a1, A2, c2, l2, A3, c3, l3, ?_, { F with cells := rfl }⟩
  obtain ⟨l⟩ := cs
  rw [show l = _ from hc]

theorem cells5 : Tryd.prog.cellsOf 38 = 7 := by kernel_rfl
theorem cells6 : Tryd.prog.cellsOf 4 = 1 := by kernel_rfl
set_option maxRecDepth 100000 in
theorem open_puzzle {H : Type} {enc : TypeId × Value → H} {W : World} {base : Nat} {held : Bool} {r : Reach} {b0 : Nat} {v : Value} {d : DataW H} {p : List MemPlace} (hv : Value.okWide Tryd.prog W r b0 38 v) (h : DataW.Trod enc Tryd.prog W base (fun _ => true) held 38 v d p) :
    ∃ a0 a1 A2 c2 l2 A3 c3 l3 d4 d5 d6, v = .agg #[.int .i64 a0, .int .i64 a1, .slice A2 l2.length c2, .slice A3 l3.length c3, .int .i64 d4, .bool d5, .int .i64 d6] ∧ (Lit.int .i64 d4).wf = true ∧ (Lit.int .i64 d6).wf = true ∧ FigIn W [.int .i64 a0, .int .i64 a1, .slice A2 l2.length c2, .slice A3 l3.length c3] a0 a1 A2 c2 l2 A3 c3 l3 := by
  obtain ⟨cs, rfl, hsz⟩ := okWide_struct Tryd.underlying38 hv
  rw [cells5] at hsz
  obtain ⟨fuel, hf⟩ := h
  obtain ⟨y0, y1, y2, y3, n, _, _, h0, h1, h2, h3⟩ := trod_struct4 Tryd.underlying38 hf
  match cs, hsz with
  | ⟨[k0, k1, k2, k3, k4, k5, k6]⟩, _ =>
    simp only [cells1, cells3, cells6, Value.cells, List.drop, List.take] at h0 h1 h2 h3
    obtain ⟨d4, rfl, w4⟩ := open_num Tryd.underlying3 h1
    obtain ⟨d5, hd5, _⟩ := DataW.trod_bool Tryd.underlying4 h2
    simp only [List.cons.injEq, and_true] at hd5
    subst hd5
    obtain ⟨d6, rfl, w6⟩ := open_num Tryd.underlying3 h3
    obtain ⟨a0, a1, A2, c2, l2, A3, c3, l3, F⟩ := open_fig h0
    have := F.cells
    simp only [List.cons.injEq, and_true] at this
    obtain ⟨rfl, rfl, rfl, rfl⟩ := this
    exact ⟨a0, a1, A2, c2, l2, A3, c3, l3, d4, d5, d6, rfl, w4, w6, F⟩

theorem puzzle_same (w h : Int) (l2 l3 : List Int) (d4 : Int) (d5 : Bool) (d6 : Int) (h2 : l2.length ≤ 1000000) (h3 : l3.length ≤ 1000000) (k : Nat) (hk : l2.length + l3.length + 5 ≤ k) : ∃ b, spec_pzGood.f k w h l2 l3 d4 d5 d6 = some b ∧ impl_IsPuzzle.f k w h l2 l3 d4 d5 d6 = some b ∧ (b = true → FigOK w h l2 l3 ∧ w * h ≤ 9 ∧ 0 ≤ d4) := by
  obtain ⟨b, q, r, i⟩ := right_same w h l2 l3 d4 d5 (by omega) (by omega) k hk
  unfold impl_IsPuzzle.f spec_pzGood.f impl_Puzzle_way.f spec_fiCount.f spec_moSquares.f impl_isNumber.f
  simp only [bnd, q, r, impl_within_f, spec_l1In_f]
  cases b with
  | false =>
    simp only [Bool.false_eq_true, if_false]
    exact ⟨false, rfl, rfl, fun h => by cases h⟩
  | true =>
    have F := (i.1 rfl).1.1
    have c := count_f F
    have s := set_f F (by omega) (by omega) k (by omega)
    generalize ((maskN w h l2 l3 : Nat) : Int) = M at *
    simp only [s, c, bnd, if_true]
    have e : wrap64 ((l2.length : Int) + (l3.length : Int)) = ((l2.length + l3.length : Nat) : Int) := by rw [w64 _ (by omega) (by omega)]; omega
    rw [e]
    by_cases hd : d4 ≤ ((l2.length + l3.length : Nat) : Int)
    · simp only [if_pos hd]; exact ⟨_, rfl, rfl, fun _ => ⟨(i.1 rfl).1.1, (i.1 rfl).1.2, (i.1 rfl).2.1⟩⟩
    · simp only [if_neg hd]; exact ⟨_, rfl, rfl, fun _ => ⟨(i.1 rfl).1.1, (i.1 rfl).1.2, (i.1 rfl).2.1⟩⟩

/-! The eight figures of a figure, by their bits; which of them have its text. -/
def Gd (w h m : Nat) : Prop := 1 ≤ w ∧ w ≤ 4 ∧ 1 ≤ h ∧ h ≤ 4 ∧ m < 2 ^ (w * (h + 1) + h * (w + 1))
def txm (w h m : Nat) : List UInt8 := body w h (segs w h m).1 (segs w h m).2 0 (h + 1)
def F4 (q : Nat × Nat × Nat) : Int × Int × List Int × List Int := ((q.1 : Int), (q.2.1 : Int), (segs q.1 q.2.1 q.2.2).1, (segs q.1 q.2.1 q.2.2).2)
def tq (q : Nat × Nat × Nat) : List UInt8 := txm q.1 q.2.1 q.2.2
def Tq (q : Nat × Nat × Nat) : Nat × Nat × Nat := (q.2.1, q.1, Tm q.1 q.2.1 q.2.2)
def Mq (q : Nat × Nat × Nat) : Nat × Nat × Nat := (q.1, q.2.1, Mm q.1 q.2.1 q.2.2)
def Gq (q : Nat × Nat × Nat) : Prop := Gd q.1 q.2.1 q.2.2
section
variable {q : Nat × Nat × Nat} (g : Gq q) (k : Nat) (hk : 400 ≤ k)
include g
theorem Gq.tu : Gq (Tq q) := by
  obtain ⟨w1, w4, h1, h4, hm⟩ := g
  exact ⟨h1, h4, w1, w4, orUp_lt _ _ _ 0 (fun p hp => ((tu_ok w1 w4 h1 h4).1 p hp).2) (Nat.two_pow_pos _)⟩
theorem Gq.mi : Gq (Mq q) := by
  obtain ⟨w1, w4, h1, h4, hm⟩ := g
  exact ⟨w1, w4, h1, h4, orUp_lt _ _ _ 0 (fun p hp => ((mi_ok w1 w4 h1 h4).1 p hp).2) (Nat.two_pow_pos _)⟩
include hk
theorem gq_text_i : impl_figureText.f k (F4 q).1 (F4 q).2.1 (F4 q).2.2.1 (F4 q).2.2.2 = some (B8 (tq q)) := by
  obtain ⟨w1, w4, h1, h4, hm⟩ := g
  exact figureText_f w1 w4 h1 h4 (seg_fig w1 w4 h1 h4 _) k (by omega)
theorem gq_text_s : spec_fiText.f k (F4 q).1 (F4 q).2.1 (F4 q).2.2.1 (F4 q).2.2.2 = some (B8 (tq q)) := by
  obtain ⟨w1, w4, h1, h4, hm⟩ := g
  exact fiText_f w1 w4 h1 h4 (seg_fig w1 w4 h1 h4 _) k (by omega)
theorem gq_turn_i : impl_turned.f k (F4 q).1 (F4 q).2.1 (F4 q).2.2.1 (F4 q).2.2.2 = some (F4 (Tq q)) := by
  obtain ⟨w1, w4, h1, h4, hm⟩ := g
  have := turned_f w1 w4 h1 h4 (seg_fig w1 w4 h1 h4 q.2.2) k (by omega)
  rw [seg_mask w1 w4 h1 h4 _ hm] at this
  exact this
theorem gq_turn_s : spec_fiTurn.f k (F4 q).1 (F4 q).2.1 (F4 q).2.2.1 (F4 q).2.2.2 = some (F4 (Tq q)) := by
  obtain ⟨w1, w4, h1, h4, hm⟩ := g
  have := fiTurn_f w1 w4 h1 h4 (seg_fig w1 w4 h1 h4 q.2.2) k (by omega)
  rw [seg_mask w1 w4 h1 h4 _ hm] at this
  exact this
theorem gq_mir_i : impl_mirrored.f k (F4 q).1 (F4 q).2.1 (F4 q).2.2.1 (F4 q).2.2.2 = some (F4 (Mq q)) := by
  obtain ⟨w1, w4, h1, h4, hm⟩ := g
  have := mirrored_f w1 w4 h1 h4 (seg_fig w1 w4 h1 h4 q.2.2) k (by omega)
  rw [seg_mask w1 w4 h1 h4 _ hm] at this
  exact this
theorem gq_mir_s : spec_fiMirror.f k (F4 q).1 (F4 q).2.1 (F4 q).2.2.1 (F4 q).2.2.2 = some (F4 (Mq q)) := by
  obtain ⟨w1, w4, h1, h4, hm⟩ := g
  have := fiMirror_f w1 w4 h1 h4 (seg_fig w1 w4 h1 h4 q.2.2) k (by omega)
  rw [seg_mask w1 w4 h1 h4 _ hm] at this
  exact this
theorem e8_step (n : Nat) : e8 k (n + 1) (F4 q) = (e8 k n (F4 (Tq q))).bind fun r => some (F4 q :: F4 (Mq q) :: r) := by
  rw [e8, gq_mir_i g k hk, gq_turn_i g k hk]
  rfl
end
def Iq (q : Nat × Nat × Nat) : List (Nat × Nat × Nat) := [q, Mq q, Tq q, Mq (Tq q), Tq (Tq q), Mq (Tq (Tq q)), Tq (Tq (Tq q)), Mq (Tq (Tq (Tq q)))]
theorem e8_f {q : Nat × Nat × Nat} (g : Gq q) (k : Nat) (hk : 400 ≤ k) : e8 k 4 (F4 q) = some ((Iq q).map F4) := by
  rw [e8_step g k hk, e8_step g.tu k hk, e8_step g.tu.tu k hk, e8_step g.tu.tu.tu k hk]
  rfl
theorem Iq_good {q : Nat × Nat × Nat} (g : Gq q) : ∀ p ∈ Iq q, Gq p := by
  intro p hp
  simp only [Iq, List.mem_cons, List.not_mem_nil, or_false] at hp
  rcases hp with rfl | rfl | rfl | rfl | rfl | rfl | rfl | rfl
  · exact g
  · exact g.mi
  · exact g.tu
  · exact g.tu.mi
  · exact g.tu.tu
  · exact g.tu.tu.mi
  · exact g.tu.tu.tu
  · exact g.tu.tu.tu.mi
theorem cmp_zero : ∀ a b : List UInt8, Lib.compareBytes a b = 0 ↔ a = b
  | [], [] => by simp [Lib.compareBytes]
  | [], _ :: _ => by simp [Lib.compareBytes]
  | _ :: _, [] => by simp [Lib.compareBytes]
  | a :: ar, b :: br => by
    have ih := cmp_zero ar br
    simp only [Lib.compareBytes, List.cons.injEq]
    by_cases h1 : a < b
    · rw [if_pos h1]
      exact ⟨fun h => absurd h (by decide), fun h => absurd h1 (h.1 ▸ UInt8.lt_irrefl _)⟩
    · rw [if_neg h1]
      by_cases h2 : b < a
      · rw [if_pos h2]
        exact ⟨fun h => absurd h (by decide), fun h => absurd h2 (h.1 ▸ UInt8.lt_irrefl _)⟩
      · rw [if_neg h2, ih]
        exact ⟨fun h => ⟨UInt8.le_antisymm (UInt8.not_lt.1 h2) (UInt8.not_lt.1 h1), h⟩, fun h => h.2⟩
theorem cmpF {p q : Nat × Nat × Nat} (gp : Gq p) (gq : Gq q) (k : Nat) (hk : 400 ≤ k) : impl_compareFigures.f k (F4 p).1 (F4 p).2.1 (F4 p).2.2.1 (F4 p).2.2.2 (F4 q).1 (F4 q).2.1 (F4 q).2.2.1 (F4 q).2.2.2 = some (Lib.compareBytes (tq p) (tq q)) := by
  unfold impl_compareFigures.f strings_Compare.f
  rw [gq_text_i gp k hk, gq_text_i gq k hk]
  rfl
theorem kpL_f {q : Nat × Nat × Nat} (g : Gq q) (k : Nat) (hk : 400 ≤ k) : ∀ (L : List (Nat × Nat × Nat)) (j : Nat), (∀ p ∈ L, Gq p) → ∃ r, kpL k (F4 q) j (L.map F4) = some r ∧ r.length = (L.filter fun p => tq p == tq q).length
  | [], j, _ => ⟨[], rfl, rfl⟩
  | p :: L, j, hL => by
    obtain ⟨r, h1, h2⟩ := kpL_f g k hk L (j + 1) (fun p hp => hL p (List.mem_cons_of_mem _ hp))
    rw [List.map_cons, kpL, cmpF (hL p (List.mem_cons_self ..)) g k hk, Option.bind_some, h1, Option.bind_some]
    refine ⟨_, rfl, ?_⟩
    rw [List.filter_cons]
    by_cases e : tq p = tq q
    · rw [if_pos ((cmp_zero _ _).2 e), if_pos (by simpa using e), List.length_cons, List.length_cons, h2]
    · rw [if_neg (fun h => e ((cmp_zero _ _).1 h)), if_neg (by simpa using e), h2]
theorem keeping_f {q : Nat × Nat × Nat} (g : Gq q) (k : Nat) (hk : 400 ≤ k) : ∃ r, impl_keeping.f k (F4 q).1 (F4 q).2.1 (F4 q).2.2.1 (F4 q).2.2.2 = some r ∧ r.length = ((Iq q).filter fun p => tq p == tq q).length := by
  obtain ⟨r, h1, h2⟩ := kpL_f g k hk (Iq q) 0 (Iq_good g)
  refine ⟨r, ?_, h2⟩
  unfold impl_keeping.f
  rw [show ((F4 q).1, (F4 q).2.1, (F4 q).2.2.1, (F4 q).2.2.2) = F4 q from rfl, e8_f g k hk]
  exact h1
/-! the reference's eight texts -/
def Sq (q : Nat × Nat × Nat) : List (Nat × Nat × Nat) := [q, Tq q, Tq (Tq q), Tq (Tq (Tq q))]
theorem pz_l1 {q : Nat × Nat × Nat} (g : Gq q) (k : Nat) (hk : 400 ≤ k) (x : List ByteArray) (hx : x.length ≤ 100) (i j : Int) (hi : i < 4) (hj : wrap64 (i + 1) = j) (y : List S26) (a b : Int) : spec_pzImages.l1 (k + 1) x i y a b (F4 q).1 (F4 q).2.1 (F4 q).2.2.1 (F4 q).2.2.2 = spec_pzImages.l1 k (x ++ [B8 (tq q)]) j y a b (F4 (Tq q)).1 (F4 (Tq q)).2.1 (F4 (Tq q)).2.2.1 (F4 (Tq q)).2.2.2 := by
  rw [spec_pzImages.l1, if_pos hi, gq_text_s g k hk, Option.bind_some, if_pos (by omega), gq_turn_s g k hk, Option.bind_some, hj]
theorem pz_four {q : Nat × Nat × Nat} (g : Gq q) (k : Nat) (hk : 400 ≤ k) (x : List ByteArray) (hx : x.length ≤ 90) (y : List S26) (a b : Int) : spec_pzImages.l1 (k + 5) x 0 y a b (F4 q).1 (F4 q).2.1 (F4 q).2.2.1 (F4 q).2.2.2 = spec_pzImages.l0 k (x ++ (Sq q).map fun p => B8 (tq p)) y a (wrap64 (b + 1)) := by
  rw [pz_l1 g _ (by omega) x (by omega) 0 1 (by decide) (by rw [w64 _ (by omega) (by omega)]; rfl), pz_l1 g.tu _ (by omega) _ (by simp; omega) 1 2 (by decide) (by rw [w64 _ (by omega) (by omega)]; rfl), pz_l1 g.tu.tu _ (by omega) _ (by simp; omega) 2 3 (by decide) (by rw [w64 _ (by omega) (by omega)]; rfl), pz_l1 g.tu.tu.tu _ (by omega) _ (by simp; omega) 3 4 (by decide) (by rw [w64 _ (by omega) (by omega)]; rfl), spec_pzImages.l1, if_neg (by decide)]
  simp [Sq]
theorem pz_f {q : Nat × Nat × Nat} (g : Gq q) (k : Nat) (hk : 500 ≤ k) : spec_pzImages.f k (F4 q).1 (F4 q).2.1 (F4 q).2.2.1 (F4 q).2.2.2 = some ((Sq q ++ Sq (Mq q)).map fun p => B8 (tq p)) := by
  obtain ⟨k, rfl⟩ : ∃ m, k = m + 13 := ⟨k - 13, by omega⟩
  unfold spec_pzImages.f
  rw [gq_mir_s g _ (by omega), Option.bind_some, Option.bind_some]
  rw [spec_pzImages.l0, if_pos (by simp), if_pos (by decide), if_pos (by simp)]
  refine (pz_four g (k + 7) (by omega) [] (by simp) _ _ 0).trans ?_
  rw [show wrap64 (0 + 1) = 1 by rw [w64 _ (by omega) (by omega)]; rfl, spec_pzImages.l0, if_pos (by simp), if_pos (by decide), if_pos (by simp)]
  refine (pz_four g.mi (k + 1) (by omega) _ (by simp [Sq]) _ _ 1).trans ?_
  rw [show wrap64 (1 + 1) = 2 by rw [w64 _ (by omega) (by omega)]; rfl, spec_pzImages.l0, if_neg (by simp), List.nil_append, List.map_append]
theorem B8_toList (l : List UInt8) : (B8 l).toList = l := by rw [Lib.toList_data]; rfl
theorem sym_l0 (t : List UInt8) (x4 : List ByteArray) (h0 : 0 < x4.length) (e0 : rdOf ByteArray.empty x4 0 = B8 t) (L : List (List UInt8)) (hL : L.length ≤ 100) : ∀ (d i k : Nat), i + d = L.length → d < k → spec_IsSymmetric.l0 k x4 (L.map B8) (L.length : Int) i = some ((L.drop i).any (fun s => s == t), true)
  | 0, i, k, hi, hk => by
    obtain ⟨k, rfl⟩ : ∃ m, k = m + 1 := ⟨k - 1, by omega⟩
    rw [spec_IsSymmetric.l0, if_neg (by omega), List.drop_eq_nil_of_le (by omega)]
    rfl
  | d + 1, i, k, hi, hk => by
    obtain ⟨k, rfl⟩ : ∃ m, k = m + 1 := ⟨k - 1, by omega⟩
    have hlt : i < L.length := by omega
    rw [spec_IsSymmetric.l0, if_pos (by omega), if_pos (by omega), if_pos (by rw [List.length_map]; omega), if_pos (by omega), e0, List.drop_eq_getElem_cons hlt, List.any_cons]
    have e1 : rdOf ByteArray.empty (L.map B8) (i : Int) = B8 L[i] := by
      unfold rdOf
      rw [Int.toNat_natCast, List.getD_eq_getElem?_getD, List.getElem?_eq_getElem (by rw [List.length_map]; exact hlt), Option.getD_some, List.getElem_map]
    rw [e1, B8_toList, B8_toList]
    by_cases e : L[i] = t
    · rw [if_pos e, show (L[i] == t) = true by simpa using e, Bool.true_or]
    · rw [if_neg e, show (L[i] == t) = false by simpa using e, Bool.false_or, show wrap64 ((i : Int) + 1) = ((i + 1 : Nat) : Int) by rw [w64 _ (by omega) (by omega)]; omega]
      exact sym_l0 t x4 h0 e0 L hL d (i + 1) k (by omega) (by omega)
/-- the same seven others -/
theorem same_seven {q : Nat × Nat × Nat} (g : Gq q) : Mq (Tq q) = Tq (Tq (Tq (Mq q))) ∧ Mq (Tq (Tq q)) = Tq (Tq (Mq q)) ∧ Mq (Tq (Tq (Tq q))) = Tq (Mq q) := by
  obtain ⟨w1, w4, h1, h4, hm⟩ := g
  obtain ⟨a, b, c⟩ := group8 w1 w4 h1 h4 q.2.2
  exact ⟨Prod.ext rfl (Prod.ext rfl a), Prod.ext rfl (Prod.ext rfl b), Prod.ext rfl (Prod.ext rfl c)⟩
theorem sym_bool (b1 b2 b3 b4 b5 b6 b7 : Bool) (n : Nat) (hn : n = (if b1 = true then 1 else 0) + (if b2 = true then 1 else 0) + (if b3 = true then 1 else 0) + (if b4 = true then 1 else 0) + (if b5 = true then 1 else 0) + (if b6 = true then 1 else 0) + (if b7 = true then 1 else 0) + 1) : decide ((n : Int) > 1) = (b1 || (b2 || (b3 || (b4 || (b5 || (b6 || (b7 || false))))))) := by
  subst hn
  revert b1 b2 b3 b4 b5 b6 b7
  decide
theorem len_filter {α : Type} (p : α → Bool) (a : α) (l : List α) : ((a :: l).filter p).length = (l.filter p).length + (if p a = true then 1 else 0) := by
  rw [List.filter_cons]
  split <;> simp [*]
theorem IsSymmetric_same (w h : Int) (l2 l3 : List Int) (d4 : Int) (d5 : Bool) (d6 : Int) (h2 : l2.length ≤ 1000000) (h3 : l3.length ≤ 1000000) (k : Nat) (hk : l2.length + l3.length + 600 ≤ k) : ∃ b ok, spec_IsSymmetric.f k w h l2 l3 d4 d5 d6 = some (b, ok) ∧ impl_IsSymmetric.f k w h l2 l3 d4 d5 d6 = some (b, ok) := by
  obtain ⟨b, q, r, i⟩ := puzzle_same w h l2 l3 d4 d5 d6 h2 h3 k (by omega)
  unfold spec_IsSymmetric.f impl_IsSymmetric.f
  rw [q, r, Option.bind_some, Option.bind_some]
  cases b with
  | false => exact ⟨false, false, rfl, rfl⟩
  | true =>
    have F := (i rfl).1
    obtain ⟨wn, hn, rfl, rfl, w1, w4, q1, q4⟩ := F.grid
    obtain ⟨s2, s3⟩ := mask_seg F
    have g : Gq (wn, hn, maskN wn hn l2 l3) := ⟨w1, w4, q1, q4, mask_small w1 w4 q1 q4 F⟩
    have e4 : F4 (wn, hn, maskN wn hn l2 l3) = ((wn : Int), (hn : Int), l2, l3) := by
      unfold F4 segs
      rw [s2, s3]
    obtain ⟨r, kr, kl⟩ := keeping_f g k (by omega)
    have ki := pz_f g k (by omega)
    rw [e4] at kr ki
    rw [if_pos rfl, if_pos rfl, ki, kr, Option.bind_some, Option.bind_some]
    generalize (wn, hn, maskN wn hn l2 l3) = Q at *
    refine ⟨_, true, ?_, rfl⟩
    rw [if_pos (by simp [Sq])]
    obtain ⟨g1, g2, g3⟩ := same_seven g
    have e7 := sym_l0 (tq Q) ((Sq Q ++ Sq (Mq Q)).map fun p => B8 (tq p)) (by simp [Sq]) rfl (([Tq Q, Tq (Tq Q), Tq (Tq (Tq Q))] ++ Sq (Mq Q)).map tq) (by simp [Sq]) 7 0 k (by simp [Sq]) (by omega)
    rw [List.map_map] at e7
    refine Eq.trans (e7 : _) ?_
    congr 2
    refine Eq.symm (sym_bool _ _ _ _ _ _ _ _ ?_)
    rw [kl]
    unfold Iq
    rw [g1, g2, g3]
    simp only [len_filter, List.filter_nil, List.length_nil, beq_self_eq_true, if_true]
    omega
theorem IsSymmetric_pure (w h : Int) (l2 l3 : List Int) (d4 : Int) (d5 : Bool) (d6 : Int) (F : FigW w h l2 l3) (_w4 : (Lit.int .i64 d4).wf = true) (_w6 : (Lit.int .i64 d6).wf = true) : ∃ ks ki b ok, spec_IsSymmetric.f ks w h l2 l3 d4 d5 d6 = some (b, ok) ∧ impl_IsSymmetric.f ki w h l2 l3 d4 d5 d6 = some (b, ok) := by
  obtain ⟨b, ok, q, r⟩ := IsSymmetric_same w h l2 l3 d4 d5 d6 F.n2 F.n3 (l2.length + l3.length + 600) (Nat.le_refl _)
  exact ⟨_, _, b, ok, q, r⟩

/-! The table that the row lists, and a start that fits. -/
abbrev LAID : List (String × DataW Unit) := [("math/bits.deBruijn64tab", Rows.laid_math_bits_deBruijn64tab)]
theorem tz_of_laid {W : World} (hL : laidMet Tryd.prog LAID W) : TzTab W := by
  have hg : Tryd.prog.globalNamed "math/bits.deBruijn64tab" = some 1 := by kernel_rfl
  have hT : Lib.TabIs Tryd.prog W "math/bits.deBruijn64tab" .u8 (Lib.deBruijn64tab.map fun n : Nat => (n : Int)) :=
    Lib.tabIs_of_head (rest := []) (n := 64) hg (t := 152) (by kernel_rfl) (e := 5) Tryd.underlying152 Tryd.underlying5 (by kernel_rfl) (by kernel_rfl) hL
  intro j hj
  have h := hT.cell hg j (by simpa using hj)
  rw [h]
  congr 2
  simp [List.getD, hj]
noncomputable def laidWorld (os : Os) : World :=
  { World.holding Tryd.prog os ⟨#[], #[], []⟩ with heap := (World.holding Tryd.prog os ⟨#[], #[], []⟩).heap.modify 1 fun
      | .cells _ t frozen => .cells (Lib.deBruijn64tab.map fun z : Nat => Value.int .u8 (z : Int)).toArray t frozen
      | o => o }
theorem laid_met (os : Os) (args : Array Value) : laidMet Tryd.prog LAID ((laidWorld os).forCall (fun _ _ => 0) ⟨#[], args, []⟩).memory :=
  (LaidIn.of_run [1] 8 (by kernel_rfl) (by kernel_rfl) (by kernel_rfl) (by kernel_rfl)).met
theorem own : ownKnob Tryd.prog.godebug = none := by kernel_rfl
theorem laidOut : laidOutB Tryd.prog = true := by kernel_rfl

theorem IsSymmetric_call {W : World} (hT : TzTab W) {a0 a1 : Int} {A2 : Option Addr} {c2 : Nat} {l2 : List Int} {A3 : Option Addr} {c3 : Nat} {l3 : List Int} (d4 : Int) (d5 : Bool) (d6 : Int) (F0 : FigIn W [.int .i64 a0, .int .i64 a1, .slice A2 l2.length c2, .slice A3 l3.length c3] a0 a1 A2 c2 l2 A3 c3 l3) (wd4 : (Lit.int .i64 d4).wf = true) (wd6 : (Lit.int .i64 d6).wf = true) :
    Calls Tryd.prog 4 #[.agg #[.int .i64 a0, .int .i64 a1, .slice A2 l2.length c2, .slice A3 l3.length c3, .int .i64 d4, .bool d5, .int .i64 d6]] W fun e W' => e = .returned (.bool true) ∧ Below W.heap.size W W' := by
  obtain ⟨z0, hsz0, hi0, hj0⟩ := sz_puzzle a0 a1 l2 l3 d4 d5 d6 1000000 (by omega) (by omega) F0.hm2 F0.hm3
  by_cases hneg0 : 0 ≤ z0
  · have e0 := hi0 hneg0
    obtain ⟨ks, ki, r0, r1, hs, hp⟩ := IsSymmetric_pure a0 a1 l2 l3 d4 d5 d6 (F0.w (by omega) (by omega)) wd4 wd6
    exact law_IsSymmetric ks ki r0 r1 z0 a0 a1 A2 c2 l2 A3 c3 l3 d4 d5 d6 W hT F0.hr2 F0.hr3 F0.hc2 F0.hc3 hsz0 (fun _ => ⟨by omega, by omega⟩) (fun _ => hs) (fun _ => hp)
  · exact law_IsSymmetric 0 0 false false z0 a0 a1 A2 c2 l2 A3 c3 l3 d4 d5 d6 W hT F0.hr2 F0.hr3 F0.hc2 F0.hc3 hsz0 (fun h0 => absurd h0 hneg0) (fun h0 => absurd h0 hneg0) (fun h0 => absurd h0 hneg0)
set_option maxRecDepth 100000 in
theorem lifted (os : Os) (started : os.Started) (H : Type) (enc : TypeId × Value → H) (F : Stop.Interp) :
    ReturnsInHanded {} Tryd.checked os 4 .any ((OpenSpec.ofChange Rows.fnExactIsSymmetricSpec).preRow enc Tryd.prog Tryd.f4 Rows.fnExactIsSymmetricRow.domain false LAID) (((OpenSpec.ofChange Rows.fnExactIsSymmetricSpec).at F).post enc Tryd.prog Tryd.f4 false true false false) := by
  refine returnsInHanded_of_row (C := Tryd.checked) (s := OpenSpec.ofChange Rows.fnExactIsSymmetricSpec) own started (by kernel_rfl) Tryd.func4
    (witness_row_at (enc := enc) (C := Tryd.checked) false (laidWorld os) #[.agg #[.int .i64 0, .int .i64 0, .slice none 0 0, .slice none 0 0, .int .i64 0, .bool false, .int .i64 0]] rfl (by kernel_rfl) (by kernel_rfl) (by kernel_rfl)
      (OpenSpec.preRow_of_B rfl 8 (by kernel_rfl) (by kernel_rfl) (laid_met os _))) ?_
  intro W base args ds gs before hval0 hW _ _ hsz0 hL _ _
  have hval : ∀ (j : Nat) t v, Tryd.f4.params[j]? = some t → args[j]? = some v → Value.okWide Tryd.prog W .any base t v := hval0
  have hW' := hW
  obtain ⟨p, q, hA0, hV, rfl, hfz, hnd⟩ := hW
  have hA : DataW.TrodAll enc Tryd.prog W 0 (fun _ => true) true Tryd.f4.params.toList args.toList ds p := hA0
  rw [Tryd.params4] at hA hval
  obtain ⟨v0, vs0, d0, ds0, p0, q0, hargs, rfl, rfl, h0, t0⟩ := trodAll_cons hA
  obtain ⟨rfl, rfl, rfl⟩ := trodAll_nil t0
  obtain rfl : args = #[v0] := by cases args; simp_all
  obtain ⟨rfl, rfl⟩ := trodVars_none hV
  have kk0 := h0
  have lt0 : ∀ x ∈ p0, x.block < W.heap.size := by obtain ⟨m, hm⟩ := kk0; exact DataW.trod_lt m _ _ _ hm
  obtain ⟨a0, a1, A2, c2, l2, A3, c3, l3, d4, d5, d6, rfl, wd4, wd6, F0⟩ := open_puzzle (hval 0 38 v0 rfl rfl) h0
  clear hA0 hval0 hsz0
  refine (IsSymmetric_call (tz_of_laid hL) d4 d5 d6 F0 wd4 wd6).mono fun e W' ⟨he, bel⟩ => ?_
  subst he
  exact ⟨_, rfl, _, _, _, [], _, [], hW', trodAll_mk1 (shut_bool Tryd.underlying4 _), (trodAll_cons_mk (Below.trod laidOut (by kernel_rfl) (of_decide_eq_true (by kernel_rfl)) kk0 bel lt0) trodAll_mk0), rfl, bel.frame _, fun h => by cases h⟩
theorem over : Rows.fnExactIsSymmetricRow.holds Tryd.pinned (OpenSpec.ofChange Rows.fnExactIsSymmetricSpec) :=
  OpenClaim.holds_of_wide 4 Tryd.f4 rfl rfl rfl rfl rfl rfl rfl ⟨rfl, rfl, rfl, rfl, rfl⟩ rfl rfl rfl rfl rfl (by kernel_rfl) Tryd.func4 (by kernel_rfl)
    (of_decide_eq_true (by kernel_rfl)) (by unfold Func.isWrapper; first | (rw [if_pos (by decide +kernel)]; kernel_rfl) | (rw [if_neg (by decide +kernel)]; exact ⟨rfl, rfl⟩))
    (fun os started H enc _ => lifted os started H enc (fun _ _ _ => 0))
theorem proved : Rows.FnExactIsSymmetricCardSaid :=
  Claim7.holds_tied_plain_at .later [] [.data] true (true, "2bc61eda075730672dd659df7005063bb9b2a9fe2bfc52eaf279a426d7d19532") false
    over (fun _ h => by cases h) (by kernel_rfl) (fun _ h => by cases h) fnExactIsSymmetric_row_tie rfl ⟨rfl, rfl⟩ (by kernel_rfl) rfl
    (fun f fn hf hfn => by
      obtain rfl : f = 4 := Option.some.inj ((show Tryd.prog.funcNamed "loop.example/g01233/laws.FnExactIsSymmetric" = some 4 by kernel_rfl).symm.trans hf) |>.symm
      obtain rfl : fn = Tryd.f4 := (Option.some.inj (Tryd.func4.symm.trans hfn)).symm
      exact ⟨by kernel_rfl, fun j t ht => by
        rw [Tryd.params4] at ht
        rcases j with _ | j
        · have e : t = 38 := by simpa using ht.symm
          subst e
          exact (show Tryd.prog.wantsStandIn 38 = false by kernel_rfl)
        simp at ht⟩)
    (by kernel_rfl)

end Go.Proofs.YtdjecdghfmadoaaDoor.S
namespace Go.Proofs.YtdjecdghfmadoaaDoor
/-- The row, under a short name, for the claim. -/
theorem fnExactIsSymmetric_holds : Rows.FnExactIsSymmetricCardSaid := S.proved
#print axioms fnExactIsSymmetric_holds
end Go.Proofs.YtdjecdghfmadoaaDoor
