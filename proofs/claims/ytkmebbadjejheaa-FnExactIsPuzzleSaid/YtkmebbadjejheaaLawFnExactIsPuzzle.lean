/- For every puzzle that can be read the law FnExactIsPuzzle returns true and leaves its argument as it was: the program's IsPuzzle tells what the reference's tells. Conditions: none beyond the row's own. -/
import Derived.Test.YtkmebbadjejheaaRows
import Derived.Test.YtkmebbadjejheaaAd
import Derived.Test.YtkmebbadjejheaaAc5
import Derived.Test.YtkmebbadjejheaaAc7
import Derived.Test.YtkmebbadjejheaaAc8
import Derived.Test.YtkmebbadjejheaaAc9
import Derived.WalkKit
import Derived.ProofKit
import Derived.OpenShut
import Derived.ShutString
import Derived.ChangeOld
import Derived.Below
import Derived.SizedLaws
import Derived.Lib.SmallJoins
import Derived.Deep.LoopGhost
import Derived.Deep.Draws
import Derived.Deep.RegionHeld3
namespace Go.Proofs.Ytkmebbadjejheaa.A
open Go.ChangeShapes Go.WideShapes Go.ChangeAt Go.RowKit Go.Joins
open Go.ChangeMaps (open_string shut_string)
open Go.Proofs.YtkmebbadjejheaaW.PrintWords Go.Proofs.YtkmebbadjejheaaW.PrintLast Go.Proofs.YtkmebbadjejheaaW.PrintMore
attribute [local go_sem] max2_int min2_int max_two min_two max_three min_three max_four min_four
set_option linter.unusedVariables false
set_option linter.unusedSimpArgs false
set_option linter.unnecessarySimpa false
set_option maxHeartbeats 8000000 in
set_option maxRecDepth 100000 in
theorem todesk_full (a0 a1 : Int) (A2 : Option Addr) (c2 : Nat) (l2 : List Int) (A3 : Option Addr) (c3 : Nat) (l3 : List Int) (d4 : Int) (w : World)
    (hr2 : Kd.C (Kd.int .i64) w A2 l2.length l2) (hr3 : Kd.C (Kd.int .i64) w A3 l3.length l3) (h2 : l2.length ≤ 1000000) (h3 : l3.length ≤ 1000000) :
    Calls Try.prog 9 #[.agg #[.int .i64 a0, .int .i64 a1, .slice A2 l2.length c2, .slice A3 l3.length c3, .int .i64 d4], .bool false] w fun e w' => ∃ v2 v3, e = .returned (.agg #[.int .i64 a0, .int .i64 a1, v2, v3, .int .i64 d4]) ∧ SpareFig w.heap.size w' v2 v3 l2 l3 ∧ Below w.heap.size w w' := by
  have C := fun W hr2 hr3 => tofig_full a0 a1 A2 c2 l2 A3 c3 l3 W hr2 hr3 h2 h3
  have HR2 := Aside0.mk hr2
  have HR3 := Aside0.mk hr3
  have hu := Try.underlying26
  have hu2 := Try.underlying31
  have hu3 := Try.underlying24
  have hu4 := Try.underlying29
  clear hr2 hr3
  go_enter Try.func9, Try.ntmps9
  go_wp2_with fail
  refine (C _ (Kd.C_alloc (Kd.C_alloc (Kd.C_alloc HR2.out _) _) _) (Kd.C_alloc (Kd.C_alloc (Kd.C_alloc HR3.out _) _) _)).mono ?_
  rintro e w1 ⟨v2, v3, rfl, ⟨⟨b2, b3, rfl, rfl, hne, s2, s3⟩⟩, hb⟩
  have hz2 : w.heap.size + 3 ≤ b2 := by have := s2.ge; simp at this; omega
  have hz3 : w.heap.size + 3 ≤ b3 := by have := s3.ge; simp at this; omega
  have B0 : w1.heap[w.heap.size]? = _ := (hb.block _ (by simp; try omega)).trans (heap_at3 _ _ _ _).1
  have B1 : w1.heap[w.heap.size + 1]? = _ := (hb.block _ (by simp; try omega)).trans (heap_at3 _ _ _ _).2.1
  have B2 : w1.heap[w.heap.size + 1 + 1]? = _ := (hb.block _ (by simp; try omega)).trans (heap_at3 _ _ _ _).2.2
  have k0_4 : w1.cell? ⟨w.heap.size, 4, none⟩ = some (.int .i64 d4) := (blk_cell B0 4).trans rfl
  have k2_0 : w1.cell? ⟨w.heap.size + 1 + 1, 0, none⟩ = some (.int .i64 0) := (blk_cell B2 0).trans rfl
  have f2_0 : w1.frozen? ⟨w.heap.size + 1 + 1, 0, none⟩ = false := blk_frozen B2 0
  have k1_0 : w1.cell? ⟨w.heap.size + 1, 0, none⟩ = some (.int .i64 0) := (blk_cell B1 0).trans rfl
  have f1_0 : w1.frozen? ⟨w.heap.size + 1, 0, none⟩ = false := blk_frozen B1 0
  have k2_1 : w1.cell? ⟨w.heap.size + 1 + 1, 1, none⟩ = some (.int .i64 0) := (blk_cell B2 1).trans rfl
  have f2_1 : w1.frozen? ⟨w.heap.size + 1 + 1, 1, none⟩ = false := blk_frozen B2 1
  have k1_1 : w1.cell? ⟨w.heap.size + 1, 1, none⟩ = some (.int .i64 0) := (blk_cell B1 1).trans rfl
  have f1_1 : w1.frozen? ⟨w.heap.size + 1, 1, none⟩ = false := blk_frozen B1 1
  have k2_2 : w1.cell? ⟨w.heap.size + 1 + 1, 2, none⟩ = some (.slice none 0 0) := (blk_cell B2 2).trans rfl
  have f2_2 : w1.frozen? ⟨w.heap.size + 1 + 1, 2, none⟩ = false := blk_frozen B2 2
  have k1_2 : w1.cell? ⟨w.heap.size + 1, 2, none⟩ = some (.slice none 0 0) := (blk_cell B1 2).trans rfl
  have f1_2 : w1.frozen? ⟨w.heap.size + 1, 2, none⟩ = false := blk_frozen B1 2
  have k2_3 : w1.cell? ⟨w.heap.size + 1 + 1, 3, none⟩ = some (.slice none 0 0) := (blk_cell B2 3).trans rfl
  have f2_3 : w1.frozen? ⟨w.heap.size + 1 + 1, 3, none⟩ = false := blk_frozen B2 3
  have k1_3 : w1.cell? ⟨w.heap.size + 1, 3, none⟩ = some (.slice none 0 0) := (blk_cell B1 3).trans rfl
  have f1_3 : w1.frozen? ⟨w.heap.size + 1, 3, none⟩ = false := blk_frozen B1 3
  have k2_4 : w1.cell? ⟨w.heap.size + 1 + 1, 4, none⟩ = some (.int .i64 0) := (blk_cell B2 4).trans rfl
  have f2_4 : w1.frozen? ⟨w.heap.size + 1 + 1, 4, none⟩ = false := blk_frozen B2 4
  have k1_4 : w1.cell? ⟨w.heap.size + 1, 4, none⟩ = some (.int .i64 0) := (blk_cell B1 4).trans rfl
  have f1_4 : w1.frozen? ⟨w.heap.size + 1, 4, none⟩ = false := blk_frozen B1 4
  have X1 := Aside0.mk B1
  have X2 := Aside0.mk B2
  have S2 := Aside0.mk s2
  have S3 := Aside0.mk s3
  have HB := Aside0.mk (below_step (below_alloc (below_alloc (below_alloc (Below.refl w.heap.size w) _) _) _) hb)
  have HN := Aside0.mk hne
  clear B0 B1 B2 s2 s3 hb hne
  go_wp2_with fail
  refine bodyPost_ret (results_cell_row rfl _ _ (w.heap.size + 1) 31 #[.int .i64 a0, .int .i64 a1, .slice (some ⟨b2, 0, none⟩) l2.length (l2.length + room l2.length), .slice (some ⟨b3, 0, none⟩) l3.length (l3.length + room l3.length), .int .i64 d4] (0, 0) _ rfl ?_ Try.underlying31 rfl (by kernel_rfl)) rfl ?_
  · refine blk_put (cs := #[.int .i64 a0, .int .i64 a1, .slice (some ⟨b2, 0, none⟩) l2.length (l2.length + room l2.length), .slice (some ⟨b3, 0, none⟩) l3.length (l3.length + room l3.length), .int .i64 0]) ?_ 4 _ rfl
    refine blk_put (cs := #[.int .i64 a0, .int .i64 a1, .slice (some ⟨b2, 0, none⟩) l2.length (l2.length + room l2.length), .slice none 0 0, .int .i64 0]) ?_ 3 _ rfl
    refine blk_put (cs := #[.int .i64 a0, .int .i64 a1, .slice none 0 0, .slice none 0 0, .int .i64 0]) ?_ 2 _ rfl
    refine blk_put (cs := #[.int .i64 a0, .int .i64 0, .slice none 0 0, .slice none 0 0, .int .i64 0]) ?_ 1 _ rfl
    refine blk_put (cs := #[.int .i64 0, .int .i64 0, .slice none 0 0, .slice none 0 0, .int .i64 0]) ?_ 0 _ rfl
    refine blk_far ?_ (p := ⟨w.heap.size + 1 + 1, 4, none⟩) (by simp) _
    refine blk_far ?_ (p := ⟨w.heap.size + 1 + 1, 3, none⟩) (by simp) _
    refine blk_far ?_ (p := ⟨w.heap.size + 1 + 1, 2, none⟩) (by simp) _
    refine blk_far ?_ (p := ⟨w.heap.size + 1 + 1, 1, none⟩) (by simp) _
    refine blk_far ?_ (p := ⟨w.heap.size + 1 + 1, 0, none⟩) (by simp) _
    exact X1.out
  · refine ⟨_, _, rfl, ⟨b2, b3, rfl, rfl, HN.out, ⟨by omega, (Spare.set (Spare.set (Spare.set (Spare.set (Spare.set (Spare.set (Spare.set (Spare.set (Spare.set (Spare.set S2.out (p := ⟨w.heap.size + 1 + 1, 0, none⟩) (by simp; omega) _) (p := ⟨w.heap.size + 1 + 1, 1, none⟩) (by simp; omega) _) (p := ⟨w.heap.size + 1 + 1, 2, none⟩) (by simp; omega) _) (p := ⟨w.heap.size + 1 + 1, 3, none⟩) (by simp; omega) _) (p := ⟨w.heap.size + 1 + 1, 4, none⟩) (by simp; omega) _) (p := ⟨w.heap.size + 1, 0, none⟩) (by simp; omega) _) (p := ⟨w.heap.size + 1, 1, none⟩) (by simp; omega) _) (p := ⟨w.heap.size + 1, 2, none⟩) (by simp; omega) _) (p := ⟨w.heap.size + 1, 3, none⟩) (by simp; omega) _) (p := ⟨w.heap.size + 1, 4, none⟩) (by simp; omega) _).blk⟩, ⟨by omega, (Spare.set (Spare.set (Spare.set (Spare.set (Spare.set (Spare.set (Spare.set (Spare.set (Spare.set (Spare.set S3.out (p := ⟨w.heap.size + 1 + 1, 0, none⟩) (by simp; omega) _) (p := ⟨w.heap.size + 1 + 1, 1, none⟩) (by simp; omega) _) (p := ⟨w.heap.size + 1 + 1, 2, none⟩) (by simp; omega) _) (p := ⟨w.heap.size + 1 + 1, 3, none⟩) (by simp; omega) _) (p := ⟨w.heap.size + 1 + 1, 4, none⟩) (by simp; omega) _) (p := ⟨w.heap.size + 1, 0, none⟩) (by simp; omega) _) (p := ⟨w.heap.size + 1, 1, none⟩) (by simp; omega) _) (p := ⟨w.heap.size + 1, 2, none⟩) (by simp; omega) _) (p := ⟨w.heap.size + 1, 3, none⟩) (by simp; omega) _) (p := ⟨w.heap.size + 1, 4, none⟩) (by simp; omega) _).blk⟩⟩, ?_⟩
    repeat (refine below_set ?_ (by omega))
    exact HB.out

set_option maxHeartbeats 8000000 in
set_option maxRecDepth 100000 in
theorem topuzzle_full (a0 a1 : Int) (A2 : Option Addr) (c2 : Nat) (l2 : List Int) (A3 : Option Addr) (c3 : Nat) (l3 : List Int) (d4 : Int) (d5 : Bool) (d6 : Int) (w : World)
    (hr2 : Kd.C (Kd.int .i64) w A2 l2.length l2) (hr3 : Kd.C (Kd.int .i64) w A3 l3.length l3) (h2 : l2.length ≤ 1000000) (h3 : l3.length ≤ 1000000) :
    Calls Try.prog 14 #[.agg #[.int .i64 a0, .int .i64 a1, .slice A2 l2.length c2, .slice A3 l3.length c3, .int .i64 d4, .bool d5, .int .i64 d6], .bool false] w fun e w' => ∃ v2 v3, e = .returned (.agg #[.int .i64 a0, .int .i64 a1, v2, v3, .int .i64 d4, .bool d5, .int .i64 d6]) ∧ SpareFig w.heap.size w' v2 v3 l2 l3 ∧ Below w.heap.size w w' := by
  have C := fun W hr2 hr3 => tofig_full a0 a1 A2 c2 l2 A3 c3 l3 W hr2 hr3 h2 h3
  have HR2 := Aside0.mk hr2
  have HR3 := Aside0.mk hr3
  have hu := Try.underlying36
  have hu2 := Try.underlying40
  have hu3 := Try.underlying24
  have hu4 := Try.underlying29
  clear hr2 hr3
  go_enter Try.func14, Try.ntmps14
  go_wp2_with fail
  refine (C _ (Kd.C_alloc (Kd.C_alloc (Kd.C_alloc HR2.out _) _) _) (Kd.C_alloc (Kd.C_alloc (Kd.C_alloc HR3.out _) _) _)).mono ?_
  rintro e w1 ⟨v2, v3, rfl, ⟨⟨b2, b3, rfl, rfl, hne, s2, s3⟩⟩, hb⟩
  have hz2 : w.heap.size + 3 ≤ b2 := by have := s2.ge; simp at this; omega
  have hz3 : w.heap.size + 3 ≤ b3 := by have := s3.ge; simp at this; omega
  have B0 : w1.heap[w.heap.size]? = _ := (hb.block _ (by simp; try omega)).trans (heap_at3 _ _ _ _).1
  have B1 : w1.heap[w.heap.size + 1]? = _ := (hb.block _ (by simp; try omega)).trans (heap_at3 _ _ _ _).2.1
  have B2 : w1.heap[w.heap.size + 1 + 1]? = _ := (hb.block _ (by simp; try omega)).trans (heap_at3 _ _ _ _).2.2
  have k0_4 : w1.cell? ⟨w.heap.size, 4, none⟩ = some (.int .i64 d4) := (blk_cell B0 4).trans rfl
  have k0_5 : w1.cell? ⟨w.heap.size, 5, none⟩ = some (.bool d5) := (blk_cell B0 5).trans rfl
  have k0_6 : w1.cell? ⟨w.heap.size, 6, none⟩ = some (.int .i64 d6) := (blk_cell B0 6).trans rfl
  have k2_0 : w1.cell? ⟨w.heap.size + 1 + 1, 0, none⟩ = some (.int .i64 0) := (blk_cell B2 0).trans rfl
  have f2_0 : w1.frozen? ⟨w.heap.size + 1 + 1, 0, none⟩ = false := blk_frozen B2 0
  have k1_0 : w1.cell? ⟨w.heap.size + 1, 0, none⟩ = some (.int .i64 0) := (blk_cell B1 0).trans rfl
  have f1_0 : w1.frozen? ⟨w.heap.size + 1, 0, none⟩ = false := blk_frozen B1 0
  have k2_1 : w1.cell? ⟨w.heap.size + 1 + 1, 1, none⟩ = some (.int .i64 0) := (blk_cell B2 1).trans rfl
  have f2_1 : w1.frozen? ⟨w.heap.size + 1 + 1, 1, none⟩ = false := blk_frozen B2 1
  have k1_1 : w1.cell? ⟨w.heap.size + 1, 1, none⟩ = some (.int .i64 0) := (blk_cell B1 1).trans rfl
  have f1_1 : w1.frozen? ⟨w.heap.size + 1, 1, none⟩ = false := blk_frozen B1 1
  have k2_2 : w1.cell? ⟨w.heap.size + 1 + 1, 2, none⟩ = some (.slice none 0 0) := (blk_cell B2 2).trans rfl
  have f2_2 : w1.frozen? ⟨w.heap.size + 1 + 1, 2, none⟩ = false := blk_frozen B2 2
  have k1_2 : w1.cell? ⟨w.heap.size + 1, 2, none⟩ = some (.slice none 0 0) := (blk_cell B1 2).trans rfl
  have f1_2 : w1.frozen? ⟨w.heap.size + 1, 2, none⟩ = false := blk_frozen B1 2
  have k2_3 : w1.cell? ⟨w.heap.size + 1 + 1, 3, none⟩ = some (.slice none 0 0) := (blk_cell B2 3).trans rfl
  have f2_3 : w1.frozen? ⟨w.heap.size + 1 + 1, 3, none⟩ = false := blk_frozen B2 3
  have k1_3 : w1.cell? ⟨w.heap.size + 1, 3, none⟩ = some (.slice none 0 0) := (blk_cell B1 3).trans rfl
  have f1_3 : w1.frozen? ⟨w.heap.size + 1, 3, none⟩ = false := blk_frozen B1 3
  have k2_4 : w1.cell? ⟨w.heap.size + 1 + 1, 4, none⟩ = some (.int .i64 0) := (blk_cell B2 4).trans rfl
  have f2_4 : w1.frozen? ⟨w.heap.size + 1 + 1, 4, none⟩ = false := blk_frozen B2 4
  have k1_4 : w1.cell? ⟨w.heap.size + 1, 4, none⟩ = some (.int .i64 0) := (blk_cell B1 4).trans rfl
  have f1_4 : w1.frozen? ⟨w.heap.size + 1, 4, none⟩ = false := blk_frozen B1 4
  have k2_5 : w1.cell? ⟨w.heap.size + 1 + 1, 5, none⟩ = some (.bool false) := (blk_cell B2 5).trans rfl
  have f2_5 : w1.frozen? ⟨w.heap.size + 1 + 1, 5, none⟩ = false := blk_frozen B2 5
  have k1_5 : w1.cell? ⟨w.heap.size + 1, 5, none⟩ = some (.bool false) := (blk_cell B1 5).trans rfl
  have f1_5 : w1.frozen? ⟨w.heap.size + 1, 5, none⟩ = false := blk_frozen B1 5
  have k2_6 : w1.cell? ⟨w.heap.size + 1 + 1, 6, none⟩ = some (.int .i64 0) := (blk_cell B2 6).trans rfl
  have f2_6 : w1.frozen? ⟨w.heap.size + 1 + 1, 6, none⟩ = false := blk_frozen B2 6
  have k1_6 : w1.cell? ⟨w.heap.size + 1, 6, none⟩ = some (.int .i64 0) := (blk_cell B1 6).trans rfl
  have f1_6 : w1.frozen? ⟨w.heap.size + 1, 6, none⟩ = false := blk_frozen B1 6
  have X1 := Aside0.mk B1
  have X2 := Aside0.mk B2
  have S2 := Aside0.mk s2
  have S3 := Aside0.mk s3
  have HB := Aside0.mk (below_step (below_alloc (below_alloc (below_alloc (Below.refl w.heap.size w) _) _) _) hb)
  have HN := Aside0.mk hne
  clear B0 B1 B2 s2 s3 hb hne
  go_wp2_with fail
  refine bodyPost_ret (results_cell_row rfl _ _ (w.heap.size + 1) 40 #[.int .i64 a0, .int .i64 a1, .slice (some ⟨b2, 0, none⟩) l2.length (l2.length + room l2.length), .slice (some ⟨b3, 0, none⟩) l3.length (l3.length + room l3.length), .int .i64 d4, .bool d5, .int .i64 d6] (0, 0) _ rfl ?_ Try.underlying40 rfl (by kernel_rfl)) rfl ?_
  · refine blk_put (cs := #[.int .i64 a0, .int .i64 a1, .slice (some ⟨b2, 0, none⟩) l2.length (l2.length + room l2.length), .slice (some ⟨b3, 0, none⟩) l3.length (l3.length + room l3.length), .int .i64 d4, .bool d5, .int .i64 0]) ?_ 6 _ rfl
    refine blk_put (cs := #[.int .i64 a0, .int .i64 a1, .slice (some ⟨b2, 0, none⟩) l2.length (l2.length + room l2.length), .slice (some ⟨b3, 0, none⟩) l3.length (l3.length + room l3.length), .int .i64 d4, .bool false, .int .i64 0]) ?_ 5 _ rfl
    refine blk_put (cs := #[.int .i64 a0, .int .i64 a1, .slice (some ⟨b2, 0, none⟩) l2.length (l2.length + room l2.length), .slice (some ⟨b3, 0, none⟩) l3.length (l3.length + room l3.length), .int .i64 0, .bool false, .int .i64 0]) ?_ 4 _ rfl
    refine blk_put (cs := #[.int .i64 a0, .int .i64 a1, .slice (some ⟨b2, 0, none⟩) l2.length (l2.length + room l2.length), .slice none 0 0, .int .i64 0, .bool false, .int .i64 0]) ?_ 3 _ rfl
    refine blk_put (cs := #[.int .i64 a0, .int .i64 a1, .slice none 0 0, .slice none 0 0, .int .i64 0, .bool false, .int .i64 0]) ?_ 2 _ rfl
    refine blk_put (cs := #[.int .i64 a0, .int .i64 0, .slice none 0 0, .slice none 0 0, .int .i64 0, .bool false, .int .i64 0]) ?_ 1 _ rfl
    refine blk_put (cs := #[.int .i64 0, .int .i64 0, .slice none 0 0, .slice none 0 0, .int .i64 0, .bool false, .int .i64 0]) ?_ 0 _ rfl
    refine blk_far ?_ (p := ⟨w.heap.size + 1 + 1, 6, none⟩) (by simp) _
    refine blk_far ?_ (p := ⟨w.heap.size + 1 + 1, 5, none⟩) (by simp) _
    refine blk_far ?_ (p := ⟨w.heap.size + 1 + 1, 4, none⟩) (by simp) _
    refine blk_far ?_ (p := ⟨w.heap.size + 1 + 1, 3, none⟩) (by simp) _
    refine blk_far ?_ (p := ⟨w.heap.size + 1 + 1, 2, none⟩) (by simp) _
    refine blk_far ?_ (p := ⟨w.heap.size + 1 + 1, 1, none⟩) (by simp) _
    refine blk_far ?_ (p := ⟨w.heap.size + 1 + 1, 0, none⟩) (by simp) _
    exact X1.out
  · refine ⟨_, _, rfl, ⟨b2, b3, rfl, rfl, HN.out, ⟨by omega, (Spare.set (Spare.set (Spare.set (Spare.set (Spare.set (Spare.set (Spare.set (Spare.set (Spare.set (Spare.set (Spare.set (Spare.set (Spare.set (Spare.set S2.out (p := ⟨w.heap.size + 1 + 1, 0, none⟩) (by simp; omega) _) (p := ⟨w.heap.size + 1 + 1, 1, none⟩) (by simp; omega) _) (p := ⟨w.heap.size + 1 + 1, 2, none⟩) (by simp; omega) _) (p := ⟨w.heap.size + 1 + 1, 3, none⟩) (by simp; omega) _) (p := ⟨w.heap.size + 1 + 1, 4, none⟩) (by simp; omega) _) (p := ⟨w.heap.size + 1 + 1, 5, none⟩) (by simp; omega) _) (p := ⟨w.heap.size + 1 + 1, 6, none⟩) (by simp; omega) _) (p := ⟨w.heap.size + 1, 0, none⟩) (by simp; omega) _) (p := ⟨w.heap.size + 1, 1, none⟩) (by simp; omega) _) (p := ⟨w.heap.size + 1, 2, none⟩) (by simp; omega) _) (p := ⟨w.heap.size + 1, 3, none⟩) (by simp; omega) _) (p := ⟨w.heap.size + 1, 4, none⟩) (by simp; omega) _) (p := ⟨w.heap.size + 1, 5, none⟩) (by simp; omega) _) (p := ⟨w.heap.size + 1, 6, none⟩) (by simp; omega) _).blk⟩, ⟨by omega, (Spare.set (Spare.set (Spare.set (Spare.set (Spare.set (Spare.set (Spare.set (Spare.set (Spare.set (Spare.set (Spare.set (Spare.set (Spare.set (Spare.set S3.out (p := ⟨w.heap.size + 1 + 1, 0, none⟩) (by simp; omega) _) (p := ⟨w.heap.size + 1 + 1, 1, none⟩) (by simp; omega) _) (p := ⟨w.heap.size + 1 + 1, 2, none⟩) (by simp; omega) _) (p := ⟨w.heap.size + 1 + 1, 3, none⟩) (by simp; omega) _) (p := ⟨w.heap.size + 1 + 1, 4, none⟩) (by simp; omega) _) (p := ⟨w.heap.size + 1 + 1, 5, none⟩) (by simp; omega) _) (p := ⟨w.heap.size + 1 + 1, 6, none⟩) (by simp; omega) _) (p := ⟨w.heap.size + 1, 0, none⟩) (by simp; omega) _) (p := ⟨w.heap.size + 1, 1, none⟩) (by simp; omega) _) (p := ⟨w.heap.size + 1, 2, none⟩) (by simp; omega) _) (p := ⟨w.heap.size + 1, 3, none⟩) (by simp; omega) _) (p := ⟨w.heap.size + 1, 4, none⟩) (by simp; omega) _) (p := ⟨w.heap.size + 1, 5, none⟩) (by simp; omega) _) (p := ⟨w.heap.size + 1, 6, none⟩) (by simp; omega) _).blk⟩⟩, ?_⟩
    repeat (refine below_set ?_ (by omega))
    exact HB.out


theorem cut_past {P : Program} (t e : TypeId) {i : TypeInfo} (ht : P.underlying t = some (.slice e)) (hi : P.info? e = some i) (A : Option Addr) (n c : Nat) (j : Int) (h0 : 0 ≤ j) (hm : j ≤ c) :
    ∀ W : World, (Instr.slice t (.slice A n c) none (some (.int .i64 j)) none).run P W = .ok (.slice A j.toNat c) W := by
  intro W
  have hel : P.elem t = e := by simp [Program.elem, ht]
  have hu : P.underlying t = some (.slice (P.elem t)) := by rw [hel]; exact ht
  have ha : (A.map fun x => x.add 0) = A := by cases A <;> simp [Addr.add]
  rw [run_slice_h W t A n c hu .i64 j h0 hm, hel]
  simp [sizeOf, typeInfo, hi, sliced, Result.andThen, ha]
theorem spare_length (l : List Int) : (spare l).length = l.length + room l.length := by simp [spare]
theorem Spare.readsAll {base : Nat} {w' : World} {b : Nat} {l : List Int} (h : Spare base w' b l) (hlen : l.length ≤ 1000000) : Kd.C (Kd.int .i64) w' (some ⟨b, 0, none⟩) (spare l).length (spare l) := by
  have hroom : room l.length ≤ l.length + 1 := by unfold room; split <;> (try split) <;> omega
  refine Kd.C_of_reads (d := (0 : Int)) (h1 := fun _ => rfl) ?_
  refine ⟨rfl, by rw [spare_length]; omega, fun hp => ⟨_, rfl, fun j hj => ?_⟩⟩
  rw [Go.Proofs.YtkmebbadjejheaaW.PrintWords.add_plain, blk_cell h.blk j, numCells_get _ _ hj]
theorem eq_same (l : List Int) (h : l.length ≤ 9000000) : ∃ k, laws_eqIntS.f k l l = some true := by
  have key : ∀ d i : Nat, i + d = l.length → laws_eqIntS.l0 (d + 1) l l i = some true := by
    intro d
    induction d with
    | zero =>
      intro i hi
      simp only [laws_eqIntS.l0]
      rw [if_neg (by omega)]
    | succ d ih =>
      intro i hi
      have := ih (i + 1) (by omega)
      rw [laws_eqIntS.l0, if_pos (by omega), if_pos (by omega), if_pos (by omega), if_pos rfl]
      rw [show wrap64 ((i : Int) + 1) = ((i + 1 : Nat) : Int) by unfold wrap64; omega]
      exact this
  refine ⟨l.length + 1, ?_⟩
  unfold laws_eqIntS.f
  rw [if_pos rfl]
  exact key l.length 0 (by omega)
set_option maxHeartbeats 4000000 in
set_option maxRecDepth 100000 in
theorem intact_ok (base1 base2 b1 b2 : Nat) (l : List Int) (w : World) (s1 : Spare base1 w b1 l) (s2 : Spare base2 w b2 l) (hlen : l.length ≤ 1000000) :
    Calls Try.prog 44 #[.slice (some ⟨b1, 0, none⟩) l.length (l.length + room l.length), .slice (some ⟨b2, 0, none⟩) l.length (l.length + room l.length)] w fun e w' => e = .returned (.bool true) ∧ Drawn0 w w' := by
  have hroom : room l.length ≤ l.length + 1 := by unfold room; split <;> (try split) <;> omega
  have RC := fun W => room_calls l.length hlen W
  obtain ⟨k, hk⟩ := eq_same (spare l) (by rw [spare_length]; omega)
  have EC := fun W h1 h2 => laws_eqIntS.calls k (some ⟨b1, 0, none⟩) (l.length + room l.length) (spare l) (some ⟨b2, 0, none⟩) (l.length + room l.length) (spare l) true W h1 (by rw [spare_length]; omega) h2 (by rw [spare_length]; omega) hk
  rw [spare_length] at EC
  have R1 := s1.readsAll hlen
  have R2 := s2.readsAll hlen
  rw [spare_length] at R1 R2
  obtain ⟨m, hm⟩ : ∃ m, room l.length = m := ⟨_, rfl⟩
  rw [hm] at RC hroom EC R1 R2
  rw [hm]
  have c1 := cut_past (P := Try.prog) 22 3 Try.underlying22 (Option.map_eq_some_iff.1 info3).choose_spec.1 (some ⟨b1, 0, none⟩) l.length (l.length + m) ((l.length : Int) + m) (by omega) (by omega)
  have c2 := cut_past (P := Try.prog) 22 3 Try.underlying22 (Option.map_eq_some_iff.1 info3).choose_spec.1 (some ⟨b2, 0, none⟩) l.length (l.length + m) ((l.length : Int) + m) (by omega) (by omega)
  rw [show ((l.length : Int) + m).toNat = l.length + m by omega] at c1 c2
  have EA := Aside0.mk EC
  have RA1 := Aside0.mk R1
  have RA2 := Aside0.mk R2
  clear EC R1 R2 s1 s2 hm hk
  go_enter Try.func44, Try.ntmps44
  go_wp2_with (go_at_call 64; refine (RC _).mono ?_; rintro e w' ⟨rfl, ⟨nd, rfl⟩⟩)
  go_quiet ((go_at_call 43; (with_reducible refine (EA.out _ (Kd.C_drewN RA1.out _) (Kd.C_drewN RA2.out _)).mono ?_); rintro e w' ⟨rfl, ⟨nd, rfl⟩⟩; (try first | exact ⟨rfl, _, World.drewN_drewN _ _ _⟩ | exact ⟨rfl, _, Eq.trans (World.drewN_drewN _ _ _) (congrArg (World.drewN _) (Nat.add_assoc _ _ _))⟩)))
  go_wp2
  go_ret
  exact ⟨rfl, by repeat (first | exact Drawn0.refl _ | apply Drawn0.step)⟩
theorem heap_at2 (w : World) (o0 o1 : Obj) : ((w.alloc o0).alloc o1).heap[w.heap.size]? = some o0 ∧ ((w.alloc o0).alloc o1).heap[w.heap.size + 1]? = some o1 := by
  refine ⟨?_, ?_⟩
  · show ((w.heap.push o0).push o1)[w.heap.size]? = _
    rw [Array.getElem?_push, if_neg (by simp), Array.getElem?_push, if_pos rfl]
  · show ((w.heap.push o0).push o1)[w.heap.size + 1]? = _
    rw [Array.getElem?_push, if_pos (by simp)]
theorem SpareFig.later {base : Nat} {w w2 : World} {v2 v3 : Value} {l2 l3 : List Int} (h : SpareFig base w v2 v3 l2 l3) (hb : Below w.heap.size w w2) : SpareFig base w2 v2 v3 l2 l3 := by
  obtain ⟨b2, b3, h1, h2, h3, h4, h5⟩ := h.out
  exact ⟨b2, b3, h1, h2, h3, h4.later hb, h5.later hb⟩
theorem SpareFig.low {base base' : Nat} {w : World} {v2 v3 : Value} {l2 l3 : List Int} (h : SpareFig base w v2 v3 l2 l3) (hb : base' ≤ base) : SpareFig base' w v2 v3 l2 l3 := by
  obtain ⟨b2, b3, h1, h2, h3, h4, h5⟩ := h.out
  exact ⟨b2, b3, h1, h2, h3, h4.low hb, h5.low hb⟩
set_option maxHeartbeats 4000000 in
set_option maxRecDepth 100000 in
theorem intactfig_ok (a0 a1 : Int) (base1 base2 : Nat) (v2 v3 u2 u3 : Value) (l2 l3 : List Int) (w : World) (s1 : SpareFig base1 w v2 v3 l2 l3) (s2 : SpareFig base2 w u2 u3 l2 l3) (h2 : l2.length ≤ 1000000) (h3 : l3.length ≤ 1000000) :
    Calls Try.prog 22 #[.agg #[.int .i64 a0, .int .i64 a1, v2, v3], .agg #[.int .i64 a0, .int .i64 a1, u2, u3]] w fun e w' => e = .returned (.bool true) ∧ Below w.heap.size w w' := by
  obtain ⟨b2, b3, rfl, rfl, _, p2, p3⟩ := s1.out
  obtain ⟨d2, d3, rfl, rfl, _, q2, q3⟩ := s2.out
  have C2 := fun W hb => intact_ok base1 base2 b2 d2 l2 W (p2.later hb) (q2.later hb) h2
  have C3 := fun W hb => intact_ok base1 base2 b3 d3 l3 W (p3.later hb) (q3.later hb) h3
  have hu := Try.underlying29
  clear p2 p3 q2 q3 s1 s2
  go_enter Try.func22, Try.ntmps22
  go_wp2_with fail
  refine (C2 _ (below_alloc (below_alloc (Below.refl _ _) _) _)).mono ?_
  rintro e w' ⟨rfl, ⟨nd, rfl⟩⟩
  go_wp2_with fail
  refine (C3 _ (pw_below_drewN (below_alloc (below_alloc (Below.refl _ _) _) _) _)).mono ?_
  rintro e w' ⟨rfl, ⟨nd2, rfl⟩⟩
  go_wp2_with fail
  go_ret
  exact ⟨rfl, by repeat (first | exact Below.refl _ _ | apply below_alloc | apply pw_below_drewN | apply below_drew1)⟩
set_option maxHeartbeats 4000000 in
set_option maxRecDepth 100000 in
theorem intactdesk_ok (a0 a1 d4 : Int) (base1 base2 : Nat) (v2 v3 u2 u3 : Value) (l2 l3 : List Int) (w : World) (s1 : SpareFig base1 w v2 v3 l2 l3) (s2 : SpareFig base2 w u2 u3 l2 l3) (h2 : l2.length ≤ 1000000) (h3 : l3.length ≤ 1000000) :
    Calls Try.prog 11 #[.agg #[.int .i64 a0, .int .i64 a1, v2, v3, .int .i64 d4], .agg #[.int .i64 a0, .int .i64 a1, u2, u3, .int .i64 d4]] w fun e w' => e = .returned (.bool true) ∧ Below w.heap.size w w' := by
  have C2 := fun W hb => intactfig_ok a0 a1 base1 base2 v2 v3 u2 u3 l2 l3 W (s1.later hb) (s2.later hb) h2 h3
  have hu := Try.underlying29
  have hu2 := Try.underlying31
  clear s1 s2
  go_enter Try.func11, Try.ntmps11
  go_wp2_with fail
  refine (C2 _ (below_alloc (below_alloc (Below.refl _ _) _) _)).mono ?_
  rintro e w1 ⟨rfl, hb⟩
  have B0 : w1.heap[w.heap.size]? = _ := (hb.block _ (by simp; try omega)).trans (heap_at2 _ _ _).1
  have B1 : w1.heap[w.heap.size + 1]? = _ := (hb.block _ (by simp; try omega)).trans (heap_at2 _ _ _).2
  have k0 : w1.cell? ⟨w.heap.size, 4, none⟩ = some (.int .i64 d4) := (blk_cell B0 4).trans rfl
  have k1 : w1.cell? ⟨w.heap.size + 1, 4, none⟩ = some (.int .i64 d4) := (blk_cell B1 4).trans rfl
  have HB := Aside0.mk (below_step (below_alloc (below_alloc (Below.refl w.heap.size w) _) _) hb)
  clear B0 B1 hb
  go_wp2_with fail
  go_ret
  exact ⟨rfl, HB.out⟩
set_option maxHeartbeats 4000000 in
set_option maxRecDepth 100000 in
theorem intactpuzzle_ok (a0 a1 d4 : Int) (d5 : Bool) (d6 : Int) (base1 base2 : Nat) (v2 v3 u2 u3 : Value) (l2 l3 : List Int) (w : World) (s1 : SpareFig base1 w v2 v3 l2 l3) (s2 : SpareFig base2 w u2 u3 l2 l3) (h2 : l2.length ≤ 1000000) (h3 : l3.length ≤ 1000000) :
    Calls Try.prog 16 #[.agg #[.int .i64 a0, .int .i64 a1, v2, v3, .int .i64 d4, .bool d5, .int .i64 d6], .agg #[.int .i64 a0, .int .i64 a1, u2, u3, .int .i64 d4, .bool d5, .int .i64 d6]] w fun e w' => e = .returned (.bool true) ∧ Below w.heap.size w w' := by
  have C2 := fun W hb => intactfig_ok a0 a1 base1 base2 v2 v3 u2 u3 l2 l3 W (s1.later hb) (s2.later hb) h2 h3
  have hu := Try.underlying29
  have hu2 := Try.underlying40
  clear s1 s2
  go_enter Try.func16, Try.ntmps16
  go_wp2_with fail
  refine (C2 _ (below_alloc (below_alloc (Below.refl _ _) _) _)).mono ?_
  rintro e w1 ⟨rfl, hb⟩
  have B0 : w1.heap[w.heap.size]? = _ := (hb.block _ (by simp; try omega)).trans (heap_at2 _ _ _).1
  have B1 : w1.heap[w.heap.size + 1]? = _ := (hb.block _ (by simp; try omega)).trans (heap_at2 _ _ _).2
  have k0 : w1.cell? ⟨w.heap.size, 4, none⟩ = some (.int .i64 d4) := (blk_cell B0 4).trans rfl
  have k1 : w1.cell? ⟨w.heap.size + 1, 4, none⟩ = some (.int .i64 d4) := (blk_cell B1 4).trans rfl
  have k2 : w1.cell? ⟨w.heap.size, 5, none⟩ = some (.bool d5) := (blk_cell B0 5).trans rfl
  have k3 : w1.cell? ⟨w.heap.size + 1, 5, none⟩ = some (.bool d5) := (blk_cell B1 5).trans rfl
  have k4 : w1.cell? ⟨w.heap.size, 6, none⟩ = some (.int .i64 d6) := (blk_cell B0 6).trans rfl
  have k5 : w1.cell? ⟨w.heap.size + 1, 6, none⟩ = some (.int .i64 d6) := (blk_cell B1 6).trans rfl
  have HB := Aside0.mk (below_step (below_alloc (below_alloc (Below.refl w.heap.size w) _) _) hb)
  clear B0 B1 hb
  go_wp2_with fail
  go_ret
  exact ⟨rfl, HB.out⟩

theorem blk_cells5 {w : World} {g t : Nat} {c0 c1 c2 c3 c4 : Value} (h : w.heap[g]? = some (.cells #[c0, c1, c2, c3, c4] t (0, 0))) : w.cell? ⟨g, 0, none⟩ = some c0 ∧ w.cell? ⟨g, 1, none⟩ = some c1 ∧ w.cell? ⟨g, 2, none⟩ = some c2 ∧ w.cell? ⟨g, 3, none⟩ = some c3 ∧ w.cell? ⟨g, 4, none⟩ = some c4 :=
  ⟨(blk_cell h 0).trans rfl, (blk_cell h 1).trans rfl, (blk_cell h 2).trans rfl, (blk_cell h 3).trans rfl, (blk_cell h 4).trans rfl⟩
theorem SpareFig.reads {base : Nat} {w : World} {v2 v3 : Value} {l2 l3 : List Int} (h : SpareFig base w v2 v3 l2 l3) (h2 : l2.length ≤ 1000000) (h3 : l3.length ≤ 1000000) :
    ∃ A2 c2 A3 c3, v2 = .slice A2 l2.length c2 ∧ v3 = .slice A3 l3.length c3 ∧ l2.length ≤ c2 ∧ l3.length ≤ c3 ∧ Kd.C (Kd.int .i64) w A2 l2.length l2 ∧ Kd.C (Kd.int .i64) w A3 l3.length l3 := by
  obtain ⟨b2, b3, e2, e3, _, p2, p3⟩ := h.out
  exact ⟨_, _, _, _, e2, e3, by omega, by omega, p2.reads h2, p3.reads h3⟩
theorem blk_later {w w' : World} {g : Nat} {o : Obj} (h : w.heap[g]? = some o) (hb : Below w.heap.size w w') : w'.heap[g]? = some o := (hb.block g (blk_lt h)).trans h

set_option maxHeartbeats 16000000 in
set_option maxRecDepth 100000 in
theorem law_IsPuzzle (ks ki : Nat) (r0 : Bool) (z0 : Int) (a0 a1 : Int) (A2 : Option Addr) (c2 : Nat) (l2 : List Int) (A3 : Option Addr) (c3 : Nat) (l3 : List Int) (d4 : Int) (d5 : Bool) (d6 : Int) (w : World)
    (hr2 : Kd.C (Kd.int .i64) w A2 l2.length l2) (hr3 : Kd.C (Kd.int .i64) w A3 l3.length l3) (hc2 : l2.length ≤ c2) (hc3 : l3.length ≤ c3)
    (hsz0 : laws_szPuzzle.f a0 a1 l2 l3 d4 d5 d6 1000000 = some z0)
    (hlen : 0 ≤ z0 → l2.length ≤ 1000000 ∧ l3.length ≤ 1000000)
    (hs : 0 ≤ z0 → spec_IsPuzzle.f ks a0 a1 l2 l3 d4 d5 d6 = some r0) (hi : 0 ≤ z0 → impl_IsPuzzle.f ki a0 a1 l2 l3 d4 d5 d6 = some r0) :
    Calls Try.prog 4 #[.agg #[.int .i64 a0, .int .i64 a1, .slice A2 l2.length c2, .slice A3 l3.length c3, .int .i64 d4, .bool d5, .int .i64 d6]] w fun e w' => e = .returned (.bool true) ∧ Below w.heap.size w w' := by
  have SZ0 := fun W hr2 hr3 => laws_szPuzzle.calls a0 a1 A2 c2 l2 A3 c3 l3 d4 d5 d6 1000000 z0 W hr2 hc2 hr3 hc3 hsz0
  have HR2 := Aside0.mk hr2
  have HR3 := Aside0.mk hr3
  have huPuzzle := Try.underlying36
  have hvPuzzle := Try.underlying40
  clear hr2 hr3 hsz0
  by_cases hneg0 : z0 < 0
  · have hdec0 : decide (z0 < 0) = true := decide_eq_true hneg0
    clear hs hi hlen
    go_enter Try.func4, Try.ntmps4
    go_wp2_with fail
    refine (SZ0 _ (Kd.C_alloc HR2.out _) (Kd.C_alloc HR3.out _)).mono ?_
    rintro e w1 ⟨rfl, hb⟩
    have BX0_1 := Aside0.mk (blk_later (heap_new w _) hb)
    have HB_1 := Aside0.mk (below_step (below_alloc (Below.refl w.heap.size w) _) hb)
    clear hb
    have k0_0 : w1.cell? ⟨w.heap.size, 0, none⟩ = some (.int .i64 a0) := (blk_cell BX0_1.out 0).trans rfl
    have k0_1 : w1.cell? ⟨w.heap.size, 1, none⟩ = some (.int .i64 a1) := (blk_cell BX0_1.out 1).trans rfl
    have k0_2 : w1.cell? ⟨w.heap.size, 2, none⟩ = some (.slice A2 l2.length c2) := (blk_cell BX0_1.out 2).trans rfl
    have k0_3 : w1.cell? ⟨w.heap.size, 3, none⟩ = some (.slice A3 l3.length c3) := (blk_cell BX0_1.out 3).trans rfl
    have k0_4 : w1.cell? ⟨w.heap.size, 4, none⟩ = some (.int .i64 d4) := (blk_cell BX0_1.out 4).trans rfl
    have k0_5 : w1.cell? ⟨w.heap.size, 5, none⟩ = some (.bool d5) := (blk_cell BX0_1.out 5).trans rfl
    have k0_6 : w1.cell? ⟨w.heap.size, 6, none⟩ = some (.int .i64 d6) := (blk_cell BX0_1.out 6).trans rfl
    go_wp2_with fail
    go_ret
    exact ⟨rfl, HB_1.out⟩
  · have hdec0 : decide (z0 < 0) = false := decide_eq_false hneg0
    obtain ⟨hl2, hl3⟩ := hlen (by omega)
    replace hs := hs (by omega)
    replace hi := hi (by omega)
    clear hlen
    have TO0 := fun W hr2 hr3 => topuzzle_full a0 a1 A2 c2 l2 A3 c3 l3 d4 d5 d6 W hr2 hr3 hl2 hl3
    have TB0 := fun W hr2 hr3 => laws_toPuzzle.calls a0 a1 A2 c2 l2 A3 c3 l3 d4 d5 d6 true a0 a1 l2 l3 d4 d5 d6 W hr2 hc2 hr3 hc3 (by simp [laws_toPuzzle.f, laws_toFigure.f, laws_toIntS.f, hl2, hl3])
    have SP := fun A2 c2 A3 c3 W hr2 hc2 hr3 hc3 => spec_IsPuzzle.calls ks a0 a1 A2 c2 l2 A3 c3 l3 d4 d5 d6 r0 W hr2 hc2 hr3 hc3 hs
    have IM := fun A2 c2 A3 c3 W hr2 hc2 hr3 hc3 => impl_IsPuzzle.calls ki a0 a1 A2 c2 l2 A3 c3 l3 d4 d5 d6 r0 W hr2 hc2 hr3 hc3 hi
    clear hs hi
    go_enter Try.func4, Try.ntmps4
    go_wp2_with fail
    refine (SZ0 _ (Kd.C_alloc HR2.out _) (Kd.C_alloc HR3.out _)).mono ?_
    rintro e w1 ⟨rfl, hb⟩
    have BX0_1 := Aside0.mk (blk_later (heap_new w _) hb)
    have HB_1 := Aside0.mk (below_step (below_alloc (Below.refl w.heap.size w) _) hb)
    clear hb
    have k0_0 : w1.cell? ⟨w.heap.size, 0, none⟩ = some (.int .i64 a0) := (blk_cell BX0_1.out 0).trans rfl
    have k0_1 : w1.cell? ⟨w.heap.size, 1, none⟩ = some (.int .i64 a1) := (blk_cell BX0_1.out 1).trans rfl
    have k0_2 : w1.cell? ⟨w.heap.size, 2, none⟩ = some (.slice A2 l2.length c2) := (blk_cell BX0_1.out 2).trans rfl
    have k0_3 : w1.cell? ⟨w.heap.size, 3, none⟩ = some (.slice A3 l3.length c3) := (blk_cell BX0_1.out 3).trans rfl
    have k0_4 : w1.cell? ⟨w.heap.size, 4, none⟩ = some (.int .i64 d4) := (blk_cell BX0_1.out 4).trans rfl
    have k0_5 : w1.cell? ⟨w.heap.size, 5, none⟩ = some (.bool d5) := (blk_cell BX0_1.out 5).trans rfl
    have k0_6 : w1.cell? ⟨w.heap.size, 6, none⟩ = some (.int .i64 d6) := (blk_cell BX0_1.out 6).trans rfl
    go_wp2_with fail
    refine (TO0 _ (Kd.C_below HR2.out (HB_1.out)) (Kd.C_below HR3.out (HB_1.out))).mono ?_
    rintro e w2 ⟨v2, v3, rfl, sf, hb⟩
    have BX0_2 := Aside0.mk (blk_later (BX0_1.out) hb)
    have HB_2 := Aside0.mk (below_step (HB_1.out) hb)
    obtain ⟨B2, e2, B3, e3, rfl, rfl, q2, q3, r2, r3⟩ := sf.reads hl2 hl3
    clear hb sf
    clear k0_0 k0_1 k0_2 k0_3 k0_4 k0_5 k0_6
    have k0_0 : w2.cell? ⟨w.heap.size, 0, none⟩ = some (.int .i64 a0) := (blk_cell BX0_2.out 0).trans rfl
    have k0_1 : w2.cell? ⟨w.heap.size, 1, none⟩ = some (.int .i64 a1) := (blk_cell BX0_2.out 1).trans rfl
    have k0_2 : w2.cell? ⟨w.heap.size, 2, none⟩ = some (.slice A2 l2.length c2) := (blk_cell BX0_2.out 2).trans rfl
    have k0_3 : w2.cell? ⟨w.heap.size, 3, none⟩ = some (.slice A3 l3.length c3) := (blk_cell BX0_2.out 3).trans rfl
    have k0_4 : w2.cell? ⟨w.heap.size, 4, none⟩ = some (.int .i64 d4) := (blk_cell BX0_2.out 4).trans rfl
    have k0_5 : w2.cell? ⟨w.heap.size, 5, none⟩ = some (.bool d5) := (blk_cell BX0_2.out 5).trans rfl
    have k0_6 : w2.cell? ⟨w.heap.size, 6, none⟩ = some (.int .i64 d6) := (blk_cell BX0_2.out 6).trans rfl
    go_wp2_with fail
    refine (SP _ _ _ _ _ r2 q2 r3 q3).mono ?_
    rintro e w3 ⟨rfl, hb⟩
    have BX0_3 := Aside0.mk (blk_later (BX0_2.out) hb)
    have HB_3 := Aside0.mk (below_step (HB_2.out) hb)
    clear hb r2 q2 r3 q3
    clear k0_0 k0_1 k0_2 k0_3 k0_4 k0_5 k0_6
    have k0_0 : w3.cell? ⟨w.heap.size, 0, none⟩ = some (.int .i64 a0) := (blk_cell BX0_3.out 0).trans rfl
    have k0_1 : w3.cell? ⟨w.heap.size, 1, none⟩ = some (.int .i64 a1) := (blk_cell BX0_3.out 1).trans rfl
    have k0_2 : w3.cell? ⟨w.heap.size, 2, none⟩ = some (.slice A2 l2.length c2) := (blk_cell BX0_3.out 2).trans rfl
    have k0_3 : w3.cell? ⟨w.heap.size, 3, none⟩ = some (.slice A3 l3.length c3) := (blk_cell BX0_3.out 3).trans rfl
    have k0_4 : w3.cell? ⟨w.heap.size, 4, none⟩ = some (.int .i64 d4) := (blk_cell BX0_3.out 4).trans rfl
    have k0_5 : w3.cell? ⟨w.heap.size, 5, none⟩ = some (.bool d5) := (blk_cell BX0_3.out 5).trans rfl
    have k0_6 : w3.cell? ⟨w.heap.size, 6, none⟩ = some (.int .i64 d6) := (blk_cell BX0_3.out 6).trans rfl
    go_wp2_with fail
    refine (TO0 _ (Kd.C_below HR2.out (HB_3.out)) (Kd.C_below HR3.out (HB_3.out))).mono ?_
    rintro e w4 ⟨v2, v3, rfl, sf, hb⟩
    have BX0_4 := Aside0.mk (blk_later (BX0_3.out) hb)
    have HB_4 := Aside0.mk (below_step (HB_3.out) hb)
    have SF0_4 := Aside0.mk sf
    obtain ⟨B2, e2, B3, e3, rfl, rfl, q2, q3, r2, r3⟩ := sf.reads hl2 hl3
    clear hb sf
    clear k0_0 k0_1 k0_2 k0_3 k0_4 k0_5 k0_6
    have k0_0 : w4.cell? ⟨w.heap.size, 0, none⟩ = some (.int .i64 a0) := (blk_cell BX0_4.out 0).trans rfl
    have k0_1 : w4.cell? ⟨w.heap.size, 1, none⟩ = some (.int .i64 a1) := (blk_cell BX0_4.out 1).trans rfl
    have k0_2 : w4.cell? ⟨w.heap.size, 2, none⟩ = some (.slice A2 l2.length c2) := (blk_cell BX0_4.out 2).trans rfl
    have k0_3 : w4.cell? ⟨w.heap.size, 3, none⟩ = some (.slice A3 l3.length c3) := (blk_cell BX0_4.out 3).trans rfl
    have k0_4 : w4.cell? ⟨w.heap.size, 4, none⟩ = some (.int .i64 d4) := (blk_cell BX0_4.out 4).trans rfl
    have k0_5 : w4.cell? ⟨w.heap.size, 5, none⟩ = some (.bool d5) := (blk_cell BX0_4.out 5).trans rfl
    have k0_6 : w4.cell? ⟨w.heap.size, 6, none⟩ = some (.int .i64 d6) := (blk_cell BX0_4.out 6).trans rfl
    have szb := blk_lt BX0_4.out
    go_wp2_with fail
    refine (IM _ _ _ _ _ (Kd.C_alloc r2 _) q2 (Kd.C_alloc r3 _) q3).mono ?_
    rintro e w5 ⟨rfl, hb⟩
    have BX0_5 := Aside0.mk (blk_later (blk_alloc BX0_4.out _) hb)
    have HB_5 := Aside0.mk (below_step (below_alloc (HB_4.out) _) hb)
    have BXx0_5 := Aside0.mk (blk_later (heap_new w4 _) hb)
    have SF0_5 := Aside0.mk (SF0_4.out.later (below_step (below_alloc (Below.refl _ _) _) hb))
    clear hb r2 q2 r3 q3
    clear k0_0 k0_1 k0_2 k0_3 k0_4 k0_5 k0_6 szb
    have k0_0 : w5.cell? ⟨w.heap.size, 0, none⟩ = some (.int .i64 a0) := (blk_cell BX0_5.out 0).trans rfl
    have k0_1 : w5.cell? ⟨w.heap.size, 1, none⟩ = some (.int .i64 a1) := (blk_cell BX0_5.out 1).trans rfl
    have k0_2 : w5.cell? ⟨w.heap.size, 2, none⟩ = some (.slice A2 l2.length c2) := (blk_cell BX0_5.out 2).trans rfl
    have k0_3 : w5.cell? ⟨w.heap.size, 3, none⟩ = some (.slice A3 l3.length c3) := (blk_cell BX0_5.out 3).trans rfl
    have k0_4 : w5.cell? ⟨w.heap.size, 4, none⟩ = some (.int .i64 d4) := (blk_cell BX0_5.out 4).trans rfl
    have k0_5 : w5.cell? ⟨w.heap.size, 5, none⟩ = some (.bool d5) := (blk_cell BX0_5.out 5).trans rfl
    have k0_6 : w5.cell? ⟨w.heap.size, 6, none⟩ = some (.int .i64 d6) := (blk_cell BX0_5.out 6).trans rfl
    have kx0_0 : w5.cell? ⟨w4.heap.size, 0, none⟩ = some (.int .i64 a0) := (blk_cell BXx0_5.out 0).trans rfl
    have kx0_1 : w5.cell? ⟨w4.heap.size, 1, none⟩ = some (.int .i64 a1) := (blk_cell BXx0_5.out 1).trans rfl
    have kx0_2 : w5.cell? ⟨w4.heap.size, 2, none⟩ = some (.slice B2 l2.length e2) := (blk_cell BXx0_5.out 2).trans rfl
    have kx0_3 : w5.cell? ⟨w4.heap.size, 3, none⟩ = some (.slice B3 l3.length e3) := (blk_cell BXx0_5.out 3).trans rfl
    have kx0_4 : w5.cell? ⟨w4.heap.size, 4, none⟩ = some (.int .i64 d4) := (blk_cell BXx0_5.out 4).trans rfl
    have kx0_5 : w5.cell? ⟨w4.heap.size, 5, none⟩ = some (.bool d5) := (blk_cell BXx0_5.out 5).trans rfl
    have kx0_6 : w5.cell? ⟨w4.heap.size, 6, none⟩ = some (.int .i64 d6) := (blk_cell BXx0_5.out 6).trans rfl
    go_wp2_with fail
    have INT := fun base1 base2 u2 u3 W s1 s2 => intactpuzzle_ok a0 a1 d4 d5 d6 base1 base2 (.slice B2 l2.length e2) (.slice B3 l3.length e3) u2 u3 l2 l3 W s1 s2 hl2 hl3
    go_region_held3 (fun W => W.cell? ⟨w.heap.size, 0, none⟩ = some (.int .i64 a0) ∧ W.cell? ⟨w.heap.size, 1, none⟩ = some (.int .i64 a1) ∧ W.cell? ⟨w.heap.size, 2, none⟩ = some (.slice A2 l2.length c2) ∧ W.cell? ⟨w.heap.size, 3, none⟩ = some (.slice A3 l3.length c3) ∧ W.cell? ⟨w.heap.size, 4, none⟩ = some (.int .i64 d4) ∧ W.cell? ⟨w.heap.size, 5, none⟩ = some (.bool d5) ∧ W.cell? ⟨w.heap.size, 6, none⟩ = some (.int .i64 d6) ∧ W.cell? ⟨w4.heap.size, 0, none⟩ = some (.int .i64 a0) ∧ W.cell? ⟨w4.heap.size, 1, none⟩ = some (.int .i64 a1) ∧ W.cell? ⟨w4.heap.size, 2, none⟩ = some (.slice B2 l2.length e2) ∧ W.cell? ⟨w4.heap.size, 3, none⟩ = some (.slice B3 l3.length e3) ∧ W.cell? ⟨w4.heap.size, 4, none⟩ = some (.int .i64 d4) ∧ W.cell? ⟨w4.heap.size, 5, none⟩ = some (.bool d5) ∧ W.cell? ⟨w4.heap.size, 6, none⟩ = some (.int .i64 d6))
      (first
        | (go_split_ands; exact ⟨pw_cell_below hb2 (pw_cell_below hb k0_0), pw_cell_below hb2 (pw_cell_below hb k0_1), pw_cell_below hb2 (pw_cell_below hb k0_2), pw_cell_below hb2 (pw_cell_below hb k0_3), pw_cell_below hb2 (pw_cell_below hb k0_4), pw_cell_below hb2 (pw_cell_below hb k0_5), pw_cell_below hb2 (pw_cell_below hb k0_6), pw_cell_below hb2 (pw_cell_below hb kx0_0), pw_cell_below hb2 (pw_cell_below hb kx0_1), pw_cell_below hb2 (pw_cell_below hb kx0_2), pw_cell_below hb2 (pw_cell_below hb kx0_3), pw_cell_below hb2 (pw_cell_below hb kx0_4), pw_cell_below hb2 (pw_cell_below hb kx0_5), pw_cell_below hb2 (pw_cell_below hb kx0_6)⟩)
        | (go_split_ands; exact ⟨pw_cell_below hb k0_0, pw_cell_below hb k0_1, pw_cell_below hb k0_2, pw_cell_below hb k0_3, pw_cell_below hb k0_4, pw_cell_below hb k0_5, pw_cell_below hb k0_6, pw_cell_below hb kx0_0, pw_cell_below hb kx0_1, pw_cell_below hb kx0_2, pw_cell_below hb kx0_3, pw_cell_below hb kx0_4, pw_cell_below hb kx0_5, pw_cell_below hb kx0_6⟩)
        | go_keep)
      (first
        | (go_at_call 14; refine (TO0 _ (Kd.C_below HR2.out (below_drew1 HB_5.out)) (Kd.C_below HR3.out (below_drew1 HB_5.out))).mono ?_; rintro e w6 ⟨u2, u3, rfl, sf, hb⟩)
        | (go_at_call 16; refine (INT _ _ _ _ _ (SF0_5.out.later (below_step (below_drew1 (Below.refl _ _)) hb)) sf).mono ?_; rintro e w7 ⟨rfl, hb2⟩))
    have BX0_7 := Aside0.mk (blk_later (blk_later (w := w5.drew) BX0_5.out hb) hb2)
    have BXx0_7 := Aside0.mk (blk_later (blk_later (w := w5.drew) BXx0_5.out hb) hb2)
    have HB_7 := Aside0.mk (below_step (below_step (below_drew1 HB_5.out) hb) hb2)
    clear hb hb2 sf
    clear k0_0 k0_1 k0_2 k0_3 k0_4 k0_5 k0_6 kx0_0 kx0_1 kx0_2 kx0_3 kx0_4 kx0_5 kx0_6 INT
    have k0_0 : w7.cell? ⟨w.heap.size, 0, none⟩ = some (.int .i64 a0) := (blk_cell BX0_7.out 0).trans rfl
    have k0_1 : w7.cell? ⟨w.heap.size, 1, none⟩ = some (.int .i64 a1) := (blk_cell BX0_7.out 1).trans rfl
    have k0_2 : w7.cell? ⟨w.heap.size, 2, none⟩ = some (.slice A2 l2.length c2) := (blk_cell BX0_7.out 2).trans rfl
    have k0_3 : w7.cell? ⟨w.heap.size, 3, none⟩ = some (.slice A3 l3.length c3) := (blk_cell BX0_7.out 3).trans rfl
    have k0_4 : w7.cell? ⟨w.heap.size, 4, none⟩ = some (.int .i64 d4) := (blk_cell BX0_7.out 4).trans rfl
    have k0_5 : w7.cell? ⟨w.heap.size, 5, none⟩ = some (.bool d5) := (blk_cell BX0_7.out 5).trans rfl
    have k0_6 : w7.cell? ⟨w.heap.size, 6, none⟩ = some (.int .i64 d6) := (blk_cell BX0_7.out 6).trans rfl
    go_wp2_with fail
    refine (TB0 _ (Kd.C_below HR2.out (HB_7.out)) (Kd.C_below HR3.out (HB_7.out))).mono ?_
    rintro e w8 ⟨v2, v3, rfl, o2, o3, hb⟩
    obtain ⟨D2, g2, rfl, q2, r2⟩ := Kd.R_reads o2
    obtain ⟨D3, g3, rfl, q3, r3⟩ := Kd.R_reads o3
    have BX0_8 := Aside0.mk (blk_later (BX0_7.out) hb)
    have HB_8 := Aside0.mk (below_step (HB_7.out) hb)
    clear hb o2 o3
    clear k0_0 k0_1 k0_2 k0_3 k0_4 k0_5 k0_6
    have k0_0 : w8.cell? ⟨w.heap.size, 0, none⟩ = some (.int .i64 a0) := (blk_cell BX0_8.out 0).trans rfl
    have k0_1 : w8.cell? ⟨w.heap.size, 1, none⟩ = some (.int .i64 a1) := (blk_cell BX0_8.out 1).trans rfl
    have k0_2 : w8.cell? ⟨w.heap.size, 2, none⟩ = some (.slice A2 l2.length c2) := (blk_cell BX0_8.out 2).trans rfl
    have k0_3 : w8.cell? ⟨w.heap.size, 3, none⟩ = some (.slice A3 l3.length c3) := (blk_cell BX0_8.out 3).trans rfl
    have k0_4 : w8.cell? ⟨w.heap.size, 4, none⟩ = some (.int .i64 d4) := (blk_cell BX0_8.out 4).trans rfl
    have k0_5 : w8.cell? ⟨w.heap.size, 5, none⟩ = some (.bool d5) := (blk_cell BX0_8.out 5).trans rfl
    have k0_6 : w8.cell? ⟨w.heap.size, 6, none⟩ = some (.int .i64 d6) := (blk_cell BX0_8.out 6).trans rfl
    go_wp2_with fail
    refine (IM _ _ _ _ _ r2 q2 r3 q3).mono ?_
    rintro e w9 ⟨rfl, hb⟩
    have BX0_9 := Aside0.mk (blk_later (BX0_8.out) hb)
    have HB_9 := Aside0.mk (below_step (HB_8.out) hb)
    clear hb r2 q2 r3 q3
    clear k0_0 k0_1 k0_2 k0_3 k0_4 k0_5 k0_6
    go_wp2_with fail
    go_ret
    exact ⟨rfl, HB_9.out⟩

/-! The number of bits that are set, and the program's way to count them. -/
/-- how many of the first n bits of x are set -/
def pcn : Nat → Nat → Nat
  | 0, _ => 0
  | n + 1, x => x % 2 + pcn n (x / 2)
/-- the same mask in each of n bytes -/
def rep (m : Nat) : Nat → Nat
  | 0 => 0
  | n + 1 => m + 256 * rep m n
theorem and_split (a b m M : Nat) (ha : a < 256) (hm : m < 256) : (a + 256 * b) &&& (m + 256 * M) = (a &&& m) + 256 * (b &&& M) := by
  apply Nat.eq_of_testBit_eq
  intro i
  have e : ∀ x y : Nat, x < 256 → (x + 256 * y).testBit i = if i < 8 then x.testBit i else y.testBit (i - 8) := by
    intro x y hx
    rw [Nat.add_comm, show 256 * y = 2 ^ 8 * y by rfl, Nat.testBit_two_pow_mul_add y (by simpa using hx)]
  have hl : (a &&& m) < 256 := Nat.and_lt_two_pow (n := 8) a hm
  rw [Nat.testBit_and, e a b ha, e m M hm, e _ _ hl]
  split <;> rw [Nat.testBit_and]
def st1 (x : Nat) : Nat := (x / 2 &&& 85) + (x &&& 85)
def st2 (x : Nat) : Nat := (x / 4 &&& 51) + (x &&& 51)
def st3 (x : Nat) : Nat := (x / 16 + x) &&& 15
def s1 (n x : Nat) : Nat := (x / 2 &&& rep 85 n) + (x &&& rep 85 n)
def s2 (n x : Nat) : Nat := (x / 4 &&& rep 51 n) + (x &&& rep 51 n)
def s3 (n x : Nat) : Nat := (x / 16 + x) &&& rep 15 n
theorem byte1 : ∀ a : Fin 256, ∀ c : Fin 2, (((a.val / 2 + 128 * c.val) &&& 85) = (a.val / 2 &&& 85)) ∧ st1 a.val < 256 := by decide +kernel
theorem byte2 : ∀ a : Fin 256, ∀ c : Fin 4, (((a.val / 4 + 64 * c.val) &&& 51) = (a.val / 4 &&& 51)) ∧ st2 a.val < 256 := by decide +kernel
theorem byte3 : ∀ a : Fin 256, ∀ c : Fin 5, a.val % 16 ≤ 4 → a.val / 16 ≤ 4 → ((a.val / 16 + a.val + 16 * c.val) &&& 15) = st3 a.val ∧ a.val / 16 + a.val + 16 * c.val < 256 := by decide +kernel
theorem byteAll : ∀ a : Fin 256, st3 (st2 (st1 a.val)) = pcn 8 a.val ∧ pcn 8 a.val ≤ 8 ∧ st2 (st1 a.val) % 16 ≤ 4 ∧ st2 (st1 a.val) / 16 ≤ 4 := by decide +kernel
theorem s1_step (n a b : Nat) (ha : a < 256) : s1 (n + 1) (a + 256 * b) = st1 a + 256 * s1 n b := by
  unfold s1
  have e : (a + 256 * b) / 2 = (a / 2 + 128 * (b % 2)) + 256 * (b / 2) := by omega
  have h := byte1 ⟨a, ha⟩ ⟨b % 2, by omega⟩
  rw [e, rep, and_split _ _ _ _ (by omega) (by omega), and_split _ _ _ _ ha (by omega), h.1]
  unfold st1
  simp only
  omega
theorem s2_step (n a b : Nat) (ha : a < 256) : s2 (n + 1) (a + 256 * b) = st2 a + 256 * s2 n b := by
  unfold s2
  have e : (a + 256 * b) / 4 = (a / 4 + 64 * (b % 4)) + 256 * (b / 4) := by omega
  have h := byte2 ⟨a, ha⟩ ⟨b % 4, by omega⟩
  rw [e, rep, and_split _ _ _ _ (by omega) (by omega), and_split _ _ _ _ ha (by omega), h.1]
  unfold st2
  simp only
  omega
theorem s3_step (n a b : Nat) (ha : a < 256) (h1 : a % 16 ≤ 4) (h2 : a / 16 ≤ 4) (h3 : b % 16 ≤ 4) : s3 (n + 1) (a + 256 * b) = st3 a + 256 * s3 n b := by
  unfold s3
  have e : (a + 256 * b) / 16 + (a + 256 * b) = (a / 16 + a + 16 * (b % 16)) + 256 * (b / 16 + b) := by omega
  have h := byte3 ⟨a, ha⟩ ⟨b % 16, by omega⟩ h1 h2
  rw [e, rep, and_split _ _ _ _ h.2 (by omega), h.1]
/-- the bytes of the three first stages: each tells its own count -/
def cnt : Nat → Nat → Nat
  | 0, _ => 0
  | n + 1, x => pcn 8 (x % 256) + 256 * cnt n (x / 256)
theorem stages (n : Nat) : ∀ x : Nat, x < 256 ^ n → s3 n (s2 n (s1 n x)) = cnt n x ∧ s2 n (s1 n x) % 16 ≤ 4 := by
  induction n with
  | zero =>
    intro x hx
    obtain rfl : x = 0 := by simpa using hx
    decide
  | succ n ih =>
    intro x hx
    have hb : x / 256 < 256 ^ n := by rw [Nat.pow_succ] at hx; omega
    obtain ⟨i1, i2⟩ := ih (x / 256) hb
    have e : x = x % 256 + 256 * (x / 256) := by omega
    have hA := byteAll ⟨x % 256, by omega⟩
    have b1 := (byte1 ⟨x % 256, by omega⟩ 0).2
    have b2 := (byte2 ⟨st1 (x % 256), b1⟩ 0).2
    rw [e, s1_step _ _ _ (by omega), s2_step _ _ _ b1]
    refine ⟨?_, ?_⟩
    · rw [s3_step _ _ _ b2 hA.2.2.1 hA.2.2.2 i2, i1, hA.1]
      simp only [cnt]
      rw [show (x % 256 + 256 * (x / 256)) % 256 = x % 256 by omega, show (x % 256 + 256 * (x / 256)) / 256 = x / 256 by omega]
    · have := hA.2.2.1
      simp only at this
      omega
theorem pcn_byte (n : Nat) : ∀ x : Nat, pcn (8 + n) x = pcn 8 (x % 256) + pcn n (x / 256) := by
  intro x
  have key : ∀ m y : Nat, pcn (m + n) y = pcn m (y % 2 ^ m) + pcn n (y / 2 ^ m) := by
    intro m
    induction m with
    | zero => intro y; simp [pcn]
    | succ m ih =>
      intro y
      rw [show m + 1 + n = (m + n) + 1 by omega]
      simp only [pcn]
      rw [ih (y / 2), Nat.div_div_eq_div_mul, show 2 * 2 ^ m = 2 ^ (m + 1) by rw [Nat.pow_succ]; omega]
      have h1 : y % 2 ^ (m + 1) % 2 = y % 2 := Nat.mod_mod_of_dvd _ ⟨2 ^ m, by rw [Nat.pow_succ]; omega⟩
      have h2 : y % 2 ^ (m + 1) / 2 = y / 2 % 2 ^ m := by
        rw [Nat.pow_succ, Nat.mul_comm, Nat.mod_mul_right_div_self]
      rw [h1, h2]
      omega
  exact key 8 x
theorem div1 (b t : Nat) (h : b < 256) : (b + 256 * t) / 256 = t := by omega
theorem div2 (b c t : Nat) (h : b < 256) (h2 : c < 256) : (b + 256 * (c + 256 * t)) / 65536 = t := by
  rw [show 65536 = 256 * 256 by rfl, ← Nat.div_div_eq_div_mul, div1 _ _ h, div1 _ _ h2]
theorem div4 (b c d e t : Nat) (h : b < 256) (h2 : c < 256) (h3 : d < 256) (h4 : e < 256) : (b + 256 * (c + 256 * (d + 256 * (e + 256 * t)))) / 4294967296 = t := by
  rw [show 4294967296 = 65536 * 65536 by rfl, ← Nat.div_div_eq_div_mul, div2 _ _ _ h h2, div2 _ _ _ h3 h4]
theorem lt_step (b t N : Nat) (h : b < 256) (ht : t < N) : b + 256 * t < 256 * N := by omega
theorem lt8 (b0 b1 b2 b3 b4 b5 b6 b7 : Nat) (h0 : b0 < 256) (h1 : b1 < 256) (h2 : b2 < 256) (h3 : b3 < 256) (h4 : b4 < 256) (h5 : b5 < 256) (h6 : b6 < 256) (h7 : b7 < 256) : b0 + 256 * (b1 + 256 * (b2 + 256 * (b3 + 256 * (b4 + 256 * (b5 + 256 * (b6 + 256 * b7)))))) < 18446744073709551616 :=
  lt_step _ _ _ h0 (lt_step _ _ _ h1 (lt_step _ _ _ h2 (lt_step _ _ _ h3 (lt_step _ _ _ h4 (lt_step _ _ _ h5 (lt_step _ _ _ h6 h7))))))
theorem add1 (b0 b1 b2 b3 b4 b5 b6 b7 : Nat) : (b0 + 256 * (b1 + 256 * (b2 + 256 * (b3 + 256 * (b4 + 256 * (b5 + 256 * (b6 + 256 * b7))))))) + (b1 + 256 * (b2 + 256 * (b3 + 256 * (b4 + 256 * (b5 + 256 * (b6 + 256 * b7)))))) = (b0 + b1) + 256 * ((b1 + b2) + 256 * ((b2 + b3) + 256 * ((b3 + b4) + 256 * ((b4 + b5) + 256 * ((b5 + b6) + 256 * ((b6 + b7) + 256 * b7)))))) := by omega
theorem add2 (b0 b1 b2 b3 b4 b5 b6 b7 : Nat) : (b0 + 256 * (b1 + 256 * (b2 + 256 * (b3 + 256 * (b4 + 256 * (b5 + 256 * (b6 + 256 * b7))))))) + (b2 + 256 * (b3 + 256 * (b4 + 256 * (b5 + 256 * (b6 + 256 * b7))))) = (b0 + b2) + 256 * ((b1 + b3) + 256 * ((b2 + b4) + 256 * ((b3 + b5) + 256 * ((b4 + b6) + 256 * ((b5 + b7) + 256 * (b6 + 256 * b7)))))) := by omega
theorem add4 (b0 b1 b2 b3 b4 b5 b6 b7 : Nat) : (b0 + 256 * (b1 + 256 * (b2 + 256 * (b3 + 256 * (b4 + 256 * (b5 + 256 * (b6 + 256 * b7))))))) + (b4 + 256 * (b5 + 256 * (b6 + 256 * b7))) = (b0 + b4) + 256 * ((b1 + b5) + 256 * ((b2 + b6) + 256 * ((b3 + b7) + 256 * (b4 + 256 * (b5 + 256 * (b6 + 256 * b7)))))) := by omega
theorem mod128 (b t : Nat) (h : b < 128) : (b + 256 * t) % 128 = b := by omega
/-- the last three stages add the bytes -/
theorem add_bytes (b0 b1 b2 b3 b4 b5 b6 b7 : Nat) (h0 : b0 ≤ 8) (h1 : b1 ≤ 8) (h2 : b2 ≤ 8) (h3 : b3 ≤ 8) (h4 : b4 ≤ 8) (h5 : b5 ≤ 8) (h6 : b6 ≤ 8) (h7 : b7 ≤ 8) (x y z : Nat)
    (hx : x = b0 + 256 * (b1 + 256 * (b2 + 256 * (b3 + 256 * (b4 + 256 * (b5 + 256 * (b6 + 256 * b7)))))))
    (hy : y = x + x / 256) (hz : z = y + y / 65536) : z + z / 4294967296 < 18446744073709551616 ∧ y < 18446744073709551616 ∧ z < 18446744073709551616 ∧ (z + z / 4294967296) % 128 = b0 + b1 + b2 + b3 + b4 + b5 + b6 + b7 := by
  rw [hx, div1 _ _ (by omega), add1] at hy
  rw [hy, div2 _ _ _ (by omega) (by omega), add2] at hz
  rw [hz, div4 _ _ _ _ _ (by omega) (by omega) (by omega) (by omega), add4, hy, mod128 _ _ (by omega)]
  refine ⟨lt8 _ _ _ _ _ _ _ _ ?_ ?_ ?_ ?_ ?_ ?_ ?_ ?_, lt8 _ _ _ _ _ _ _ _ ?_ ?_ ?_ ?_ ?_ ?_ ?_ ?_, lt8 _ _ _ _ _ _ _ _ ?_ ?_ ?_ ?_ ?_ ?_ ?_ ?_, ?_⟩ <;> omega

theorem and64 (a M : Nat) (ha : a < 18446744073709551616) (hM : M < 18446744073709551616) (b : Int) (hb : b = (a : Int)) (c : Int) (hc : c = (M : Int)) : Go.bits .and .u64 b c = ((a &&& M : Nat) : Int) := by
  subst hb hc
  exact u64_and_nat a M ha hM
theorem wrap64u (a : Nat) (ha : a < 18446744073709551616) (b : Int) (hb : b = (a : Int)) : IntKind.u64.wrap b = (a : Int) := by
  subst hb
  rw [IntKind.wrap_u64]
  omega
theorem rep85 : rep 85 8 = 6148914691236517205 := by decide
theorem rep51 : rep 51 8 = 3689348814741910323 := by decide
theorem rep15 : rep 15 8 = 1085102592571150095 := by decide
theorem s1_lt (m : Nat) : s1 8 m < 18446744073709551616 := by
  have h1 : m / 2 &&& rep 85 8 ≤ rep 85 8 := Nat.and_le_right
  have h2 : m &&& rep 85 8 ≤ rep 85 8 := Nat.and_le_right
  rw [rep85] at h1 h2
  unfold s1
  rw [rep85]; omega
theorem s2_lt (m : Nat) : s2 8 m ≤ 7378697629483820646 := by
  have h1 : m / 4 &&& rep 51 8 ≤ rep 51 8 := Nat.and_le_right
  have h2 : m &&& rep 51 8 ≤ rep 51 8 := Nat.and_le_right
  rw [rep51] at h1 h2
  unfold s2
  rw [rep51]; omega
theorem pcn_zero (x : Nat) : pcn 0 x = 0 := rfl
theorem cnt8 (x : Nat) : ∃ b0 b1 b2 b3 b4 b5 b6 b7 : Nat, (b0 ≤ 8 ∧ b1 ≤ 8 ∧ b2 ≤ 8 ∧ b3 ≤ 8 ∧ b4 ≤ 8 ∧ b5 ≤ 8 ∧ b6 ≤ 8 ∧ b7 ≤ 8) ∧ cnt 8 x = b0 + 256 * (b1 + 256 * (b2 + 256 * (b3 + 256 * (b4 + 256 * (b5 + 256 * (b6 + 256 * b7)))))) ∧ pcn 64 x = b0 + b1 + b2 + b3 + b4 + b5 + b6 + b7 := by
  have hb : ∀ y : Nat, pcn 8 (y % 256) ≤ 8 := fun y => (byteAll ⟨y % 256, by omega⟩).2.1
  refine ⟨_, _, _, _, _, _, _, _, ⟨hb x, hb (x / 256), hb (x / 256 / 256), hb (x / 256 / 256 / 256), hb (x / 256 / 256 / 256 / 256), hb (x / 256 / 256 / 256 / 256 / 256), hb (x / 256 / 256 / 256 / 256 / 256 / 256), hb (x / 256 / 256 / 256 / 256 / 256 / 256 / 256)⟩, rfl, ?_⟩
  rw [show (64 : Nat) = 8 + 56 by rfl, pcn_byte, show (56 : Nat) = 8 + 48 by rfl, pcn_byte, show (48 : Nat) = 8 + 40 by rfl, pcn_byte, show (40 : Nat) = 8 + 32 by rfl, pcn_byte, show (32 : Nat) = 8 + 24 by rfl, pcn_byte, show (24 : Nat) = 8 + 16 by rfl, pcn_byte, show (16 : Nat) = 8 + 8 by rfl, pcn_byte]
  rw [show pcn 8 (x / 256 / 256 / 256 / 256 / 256 / 256 / 256) = pcn (8 + 0) (x / 256 / 256 / 256 / 256 / 256 / 256 / 256) by rfl, pcn_byte, pcn_zero]
  omega
theorem h1_f (m : Nat) (hm : m < 18446744073709551616) : IntKind.u64.wrap ((Go.bits .and .u64 ((m : Int) / 2) 6148914691236517205) + (Go.bits .and .u64 (m : Int) 6148914691236517205)) = ((s1 8 m : Nat) : Int) := by
  rw [and64 (m / 2) (rep 85 8) (by omega) (by rw [rep85]; omega) _ (by omega) _ (by rw [rep85]; omega), and64 m (rep 85 8) hm (by rw [rep85]; omega) _ rfl _ (by rw [rep85]; omega)]
  exact wrap64u _ (s1_lt m) _ (by unfold s1; push_cast; rfl)
theorem h2_f (m : Nat) (hm : m < 18446744073709551616) : IntKind.u64.wrap ((Go.bits .and .u64 ((m : Int) / 4) 3689348814741910323) + (Go.bits .and .u64 (m : Int) 3689348814741910323)) = ((s2 8 m : Nat) : Int) := by
  have := s2_lt m
  rw [and64 (m / 4) (rep 51 8) (by omega) (by rw [rep51]; omega) _ (by omega) _ (by rw [rep51]; omega), and64 m (rep 51 8) hm (by rw [rep51]; omega) _ rfl _ (by rw [rep51]; omega)]
  exact wrap64u _ (by omega) _ (by unfold s2; push_cast; rfl)
theorem h3_f (m : Nat) (hm : m ≤ 7378697629483820646) : Go.bits .and .u64 (IntKind.u64.wrap ((m : Int) / 16 + (m : Int))) 1085102592571150095 = ((s3 8 m : Nat) : Int) := by
  rw [wrap64u (m / 16 + m) (by omega) _ (by omega)]
  exact and64 _ _ (by omega) (by rw [rep15]; omega) _ rfl _ (by rw [rep15]; omega)
theorem h4_f (x d : Nat) (h : x + x / d < 18446744073709551616) : IntKind.u64.wrap ((x : Int) + (x : Int) / (d : Int)) = ((x + x / d : Nat) : Int) := wrap64u _ h _ (by push_cast; rfl)
theorem h5_f (n : Nat) (h : n < 18446744073709551616) : Go.bits .and .i64 (wrap64 (n : Int)) 127 = ((n % 128 : Nat) : Int) := by
  rw [i64_and127]
  unfold wrap64
  omega
set_option maxHeartbeats 4000000 in
theorem ones_f (m : Nat) (hm : m < 18446744073709551616) : bits_OnesCount64.f (m : Int) = some ((pcn 64 m : Nat) : Int) := by
  have hs := (stages 8 m (by simpa using hm)).1
  obtain ⟨b0, b1, b2, b3, b4, b5, b6, b7, ⟨q0, q1, q2, q3, q4, q5, q6, q7⟩, hc, hp⟩ := cnt8 m
  rw [hc] at hs
  generalize hx : b0 + 256 * (b1 + 256 * (b2 + 256 * (b3 + 256 * (b4 + 256 * (b5 + 256 * (b6 + 256 * b7)))))) = x at hs
  obtain ⟨a1, a2, a3, a4⟩ := add_bytes b0 b1 b2 b3 b4 b5 b6 b7 q0 q1 q2 q3 q4 q5 q6 q7 x (x + x / 256) ((x + x / 256) + (x + x / 256) / 65536) hx.symm rfl rfl
  rw [hp, ← a4]
  clear q0 q1 q2 q3 q4 q5 q6 q7 hc hp a4 hx
  unfold bits_OnesCount64.f
  simp only [h1_f m hm, h2_f _ (s1_lt m), h3_f _ (s2_lt _), hs]
  rw [show (256 : Int) = ((256 : Nat) : Int) by rfl, h4_f x 256 a2, show (65536 : Int) = ((65536 : Nat) : Int) by rfl, h4_f _ 65536 a3, show (4294967296 : Int) = ((4294967296 : Nat) : Int) by rfl, h4_f _ 4294967296 a1, h5_f _ a1]

/-! Figures: both programs ask the same. -/
def Rise (l : List Int) : Prop := ∀ j : Nat, 1 ≤ j → j < l.length → rd l ((j : Int) - 1) < rd l j
def Within (l : List Int) (lo hi : Int) : Prop := ∀ x ∈ l, lo ≤ x ∧ x ≤ hi
theorem w64 (x : Int) (h1 : -9223372036854775808 ≤ x) (h2 : x ≤ 9223372036854775807) : wrap64 x = x := by unfold wrap64; omega

theorem rd_mem {l : List Int} {j : Nat} (h : j < l.length) : rd l (j : Int) ∈ l := by
  have e : rd l (j : Int) = l[j] := by simp [rd, h]
  rw [e]; exact List.getElem_mem h
theorem mem_rd {l : List Int} {x : Int} (h : x ∈ l) : ∃ j : Nat, j < l.length ∧ rd l (j : Int) = x := by
  obtain ⟨j, hj, rfl⟩ := List.getElem_of_mem h
  exact ⟨j, hj, by simp [rd, hj]⟩

theorem impl_within_f (a lo hi : Int) : impl_within.f a lo hi = some (decide (lo ≤ a) && decide (a ≤ hi)) := by
  unfold impl_within.f
  by_cases h : lo ≤ a <;> simp [h]
theorem spec_l1In_f (a lo hi : Int) : spec_l1In.f a lo hi = some (decide (lo ≤ a) && decide (a ≤ hi)) := by
  unfold spec_l1In.f
  by_cases h : lo ≤ a
  · rw [if_pos h]; simp [h]
  · rw [if_neg (by omega)]; simp [h]

theorem impl_rising_l (l : List Int) (hn : l.length ≤ 4611686018427387904) : ∀ (d i k : Nat), 1 ≤ i → i + d = max l.length i → d < k → ∃ b, impl_isRising.l0 k l (i : Int) = some b ∧ (b = true ↔ ∀ j : Nat, i ≤ j → j < l.length → rd l ((j : Int) - 1) < rd l j) := by
  intro d
  induction d with
  | zero =>
    intro i k h1 hi hk
    obtain ⟨k, rfl⟩ : ∃ m, k = m + 1 := ⟨k - 1, by omega⟩
    refine ⟨true, ?_, ?_⟩
    · simp only [impl_isRising.l0]; rw [if_neg (by omega)]
    · simp; intro j hj hl; omega
  | succ d ih =>
    intro i k h1 hi hk
    obtain ⟨k, rfl⟩ : ∃ m, k = m + 1 := ⟨k - 1, by omega⟩
    have hlt : (i : Int) < (l.length : Int) := by omega
    simp only [impl_isRising.l0]
    rw [if_pos hlt, if_pos (by omega), w64 _ (by omega) (by omega), if_pos (by omega), if_pos (by omega)]
    by_cases hc : rd l (i : Int) ≤ rd l ((i : Int) - 1)
    · rw [if_pos hc]
      refine ⟨false, rfl, ?_⟩
      simp
      exact ⟨i, Nat.le_refl _, by omega, by omega⟩
    · rw [if_neg hc, w64 _ (by omega) (by omega)]
      obtain ⟨b, hb, hiff⟩ := ih (i + 1) k (by omega) (by omega) (by omega)
      refine ⟨b, by exact_mod_cast hb, hiff.trans ⟨fun h j hj hl => ?_, fun h j hj hl => h j (by omega) hl⟩⟩
      by_cases e : j = i
      · subst e; omega
      · exact h j (by omega) hl
theorem impl_rising (l : List Int) (hn : l.length ≤ 4611686018427387904) (k : Nat) (hk : l.length + 1 ≤ k) : ∃ b, impl_isRising.f k l = some b ∧ (b = true ↔ Rise l) := by
  obtain ⟨b, hb, hiff⟩ := impl_rising_l l hn (max l.length 1 - 1) 1 k (by omega) (by omega) (by omega)
  exact ⟨b, hb, hiff⟩
theorem impl_areWithin_f (l : List Int) (lo hi : Int) : ∃ b, impl_areWithin.f l lo hi = some b ∧ (b = true ↔ Within l lo hi) := by
  refine ⟨_, rfl, ?_⟩
  unfold Within awP
  simp only [Bool.not_eq_true', List.any_eq_false]
  constructor
  · intro h x hx
    have := h x hx
    simpa using this
  · intro h x hx
    have := h x hx
    simp [this.1, this.2]

theorem spec_l1All_l (l : List Int) (lo hi : Int) (hn : l.length ≤ 4611686018427387904) : ∀ (d i k : Nat), i + d = l.length → d < k → ∃ b, spec_l1All.l0 k lo hi l (l.length : Int) (i : Int) = some b ∧ (b = true ↔ ∀ j : Nat, i ≤ j → j < l.length → lo ≤ rd l j ∧ rd l j ≤ hi) := by
  intro d
  induction d with
  | zero =>
    intro i k hi hk
    obtain ⟨k, rfl⟩ : ∃ m, k = m + 1 := ⟨k - 1, by omega⟩
    refine ⟨true, ?_, ?_⟩
    · simp only [spec_l1All.l0]; rw [if_neg (by omega)]
    · simp; intro j hj hl; omega
  | succ d ih =>
    intro i k hi2 hk
    obtain ⟨k, rfl⟩ : ∃ m, k = m + 1 := ⟨k - 1, by omega⟩
    simp only [spec_l1All.l0]
    rw [if_pos (by omega), if_pos (by omega), if_pos (by omega), spec_l1In_f]
    simp only [Option.bind_some]
    by_cases hc : lo ≤ rd l (i : Int) ∧ rd l (i : Int) ≤ hi
    · rw [if_pos (by simp [hc.1, hc.2]), w64 _ (by omega) (by omega)]
      obtain ⟨b, hb, hiff⟩ := ih (i + 1) k (by omega) (by omega)
      refine ⟨b, by exact_mod_cast hb, hiff.trans ⟨fun h j hj hl => ?_, fun h j hj hl => h j (by omega) hl⟩⟩
      by_cases e : j = i
      · subst e; exact hc
      · exact h j (by omega) hl
    · rw [if_neg (by simpa using hc)]
      refine ⟨false, rfl, ?_⟩
      simp
      exact ⟨i, Nat.le_refl _, by omega, by omega⟩
theorem spec_l1All_f (l : List Int) (lo hi : Int) (hn : l.length ≤ 4611686018427387904) (k : Nat) (hk : l.length + 1 ≤ k) : ∃ b, spec_l1All.f k l lo hi = some b ∧ (b = true ↔ Within l lo hi) := by
  obtain ⟨b, hb, hiff⟩ := spec_l1All_l l lo hi hn l.length 0 k (by omega) (by omega)
  refine ⟨b, hb, hiff.trans ⟨fun h x hx => ?_, fun h j _ hl => h _ (rd_mem hl)⟩⟩
  obtain ⟨j, hj, rfl⟩ := mem_rd hx
  exact h j (by omega) hj
theorem spec_fiRises_l (l : List Int) (hn : l.length ≤ 4611686018427387904) : ∀ (d i k : Nat), 1 ≤ i → i + d = max l.length i → d < k → ∃ b, spec_fiRises.l0 k l (i : Int) = some b ∧ (b = true ↔ ∀ j : Nat, i ≤ j → j < l.length → rd l ((j : Int) - 1) < rd l j) := by
  intro d
  induction d with
  | zero =>
    intro i k h1 hi hk
    obtain ⟨k, rfl⟩ : ∃ m, k = m + 1 := ⟨k - 1, by omega⟩
    refine ⟨true, ?_, ?_⟩
    · simp only [spec_fiRises.l0]; rw [if_neg (by omega)]
    · simp; intro j hj hl; omega
  | succ d ih =>
    intro i k h1 hi hk
    obtain ⟨k, rfl⟩ : ∃ m, k = m + 1 := ⟨k - 1, by omega⟩
    have hlt : (i : Int) < (l.length : Int) := by omega
    simp only [spec_fiRises.l0]
    rw [if_pos hlt, w64 ((i : Int) - 1) (by omega) (by omega), if_pos (by omega), if_pos (by omega), if_pos (by omega)]
    by_cases hc : rd l ((i : Int) - 1) ≥ rd l (i : Int)
    · rw [if_pos hc]
      refine ⟨false, rfl, ?_⟩
      simp
      exact ⟨i, Nat.le_refl _, by omega, by omega⟩
    · rw [if_neg hc, w64 _ (by omega) (by omega)]
      obtain ⟨b, hb, hiff⟩ := ih (i + 1) k (by omega) (by omega) (by omega)
      refine ⟨b, by exact_mod_cast hb, hiff.trans ⟨fun h j hj hl => ?_, fun h j hj hl => h j (by omega) hl⟩⟩
      by_cases e : j = i
      · subst e; omega
      · exact h j (by omega) hl
theorem rise_index {l : List Int} (h : Rise l) {lo : Int} (h0 : ∀ x ∈ l, lo ≤ x) : ∀ j : Nat, j < l.length → lo + j ≤ rd l (j : Int) := by
  intro j
  induction j with
  | zero => intro hl; have := h0 _ (rd_mem hl); simpa using this
  | succ j ih =>
    intro hl
    have h1 := ih (by omega)
    have h2 := h (j + 1) (by omega) hl
    rw [show ((j + 1 : Nat) : Int) - 1 = (j : Int) by omega] at h2
    omega
theorem rise_length {l : List Int} {most : Int} (h : Rise l) (hw : Within l 0 most) (hm : 0 ≤ most) : (l.length : Int) ≤ most + 1 := by
  by_cases hz : l.length = 0
  · omega
  · have h1 := rise_index h (lo := 0) (fun x hx => (hw x hx).1) (l.length - 1) (by omega)
    have h2 := (hw _ (rd_mem (j := l.length - 1) (by omega))).2
    omega
theorem spec_fiRises_f (l : List Int) (most : Int) (h0 : 0 ≤ most) (hm : most ≤ 1000) (hn : l.length ≤ 4611686018427387904) (k : Nat) (hk : l.length + 3 ≤ k) : ∃ b, spec_fiRises.f k l most = some b ∧ (b = true ↔ Rise l ∧ Within l 0 most) := by
  unfold spec_fiRises.f
  rw [w64 _ (by omega) (by omega)]
  obtain ⟨k, rfl⟩ : ∃ m, k = m + 1 := ⟨k - 1, by omega⟩
  by_cases hc : (l.length : Int) > most + 1
  · rw [if_pos hc]
    refine ⟨false, by simp [spec_fiRises.j0], ?_⟩
    simp
    intro h1 h2
    have := rise_length h1 h2 h0
    omega
  · rw [if_neg hc]
    obtain ⟨b, hb, hiff⟩ := spec_l1All_f l 0 most hn (k + 1) (by omega)
    rw [hb]
    simp only [Option.bind_some, spec_fiRises.j0]
    cases b with
    | false =>
      refine ⟨false, by simp, ?_⟩
      have : ¬ Within l 0 most := fun z => by simpa using hiff.2 z
      simp
      exact fun _ => this
    | true =>
      rw [if_neg (by simp)]
      obtain ⟨b, hb, hiff2⟩ := spec_fiRises_l l hn (max l.length 1 - 1) 1 k (by omega) (by omega) (by omega)
      exact ⟨b, hb, hiff2.trans ⟨fun h => ⟨h, hiff.1 rfl⟩, fun h => h.1⟩⟩

/-- what a figure is -/
structure FigOK (w h : Int) (l2 l3 : List Int) : Prop where
  w1 : 1 ≤ w
  w4 : w ≤ 4
  h1 : 1 ≤ h
  h4 : h ≤ 4
  r2 : Rise l2
  r3 : Rise l3
  in2 : Within l2 0 (w * (h + 1) - 1)
  in3 : Within l3 0 (h * (w + 1) - 1)
theorem mul_bounds {w h : Int} (h1 : 1 ≤ w) (h2 : w ≤ 4) (h3 : 1 ≤ h) (h4 : h ≤ 4) : 2 ≤ w * (h + 1) ∧ w * (h + 1) ≤ 20 ∧ 2 ≤ h * (w + 1) ∧ h * (w + 1) ≤ 20 ∧ (w + 1) * h = h * (w + 1) ∧ 1 ≤ w * h ∧ w * h ≤ 16 := by
  have hw : w = 1 ∨ w = 2 ∨ w = 3 ∨ w = 4 := by omega
  have hh : h = 1 ∨ h = 2 ∨ h = 3 ∨ h = 4 := by omega
  rcases hw with rfl | rfl | rfl | rfl <;> rcases hh with rfl | rfl | rfl | rfl <;> decide
theorem grid_mul {w h : Int} (h1 : 1 ≤ w) (h2 : w ≤ 4) (h3 : 1 ≤ h) (h4 : h ≤ 4) : wrap64 (w * wrap64 (h + 1)) = w * (h + 1) ∧ wrap64 (h * wrap64 (w + 1)) = h * (w + 1) ∧ wrap64 (wrap64 (w + 1) * h) = h * (w + 1) ∧ wrap64 (w * h) = w * h := by
  obtain ⟨a, b, c, d, e, f, g⟩ := mul_bounds h1 h2 h3 h4
  rw [w64 (h + 1) (by omega) (by omega), w64 (w + 1) (by omega) (by omega), e]
  exact ⟨w64 _ (by omega) (by omega), w64 _ (by omega) (by omega), w64 _ (by omega) (by omega), w64 _ (by omega) (by omega)⟩
theorem impl_isGrid_f (w h : Int) : impl_isGrid.f w h = some (decide (1 ≤ w ∧ w ≤ 4 ∧ 1 ≤ h ∧ h ≤ 4)) := by
  unfold impl_isGrid.f
  rw [impl_within_f]
  simp only [Option.bind_some]
  by_cases hc : 1 ≤ w ∧ w ≤ 4
  · rw [if_pos (by simp [hc.1, hc.2]), impl_within_f]
    simp [hc.1, hc.2]
  · rw [if_neg (by simpa using hc)]
    simp
    intro a b
    exact absurd ⟨a, b⟩ hc
theorem spec_fiGrid_f (w h : Int) : spec_fiGrid.f w h = some (decide (1 ≤ w ∧ w ≤ 4 ∧ 1 ≤ h ∧ h ≤ 4)) := by
  unfold spec_fiGrid.f
  rw [spec_l1In_f]
  simp only [Option.bind_some]
  by_cases hc : 1 ≤ w ∧ w ≤ 4
  · rw [if_pos (by simp [hc.1, hc.2]), spec_l1In_f]
    simp [hc.1, hc.2]
  · rw [if_neg (by simpa using hc)]
    simp
    intro a b
    exact absurd ⟨a, b⟩ hc
theorem impl_IsFigure_f (w h : Int) (l2 l3 : List Int) (h2 : l2.length ≤ 4611686018427387904) (h3 : l3.length ≤ 4611686018427387904) (k : Nat) (hk : l2.length + l3.length + 5 ≤ k) : ∃ b, impl_IsFigure.f k w h l2 l3 = some b ∧ (b = true ↔ FigOK w h l2 l3) := by
  unfold impl_IsFigure.f impl_Figure_grid.f impl_grid_levels.f impl_grid_uprights.f
  rw [impl_isGrid_f]
  simp only [Option.bind_some]
  by_cases hc : 1 ≤ w ∧ w ≤ 4 ∧ 1 ≤ h ∧ h ≤ 4
  · rw [if_pos (by simpa using hc)]
    obtain ⟨e1, e2, _⟩ := grid_mul hc.1 hc.2.1 hc.2.2.1 hc.2.2.2
    obtain ⟨m1, m2, m3, m4, _⟩ := mul_bounds hc.1 hc.2.1 hc.2.2.1 hc.2.2.2
    rw [e1, e2, w64 (w * (h + 1) - 1) (by omega) (by omega), w64 (h * (w + 1) - 1) (by omega) (by omega)]
    obtain ⟨b2, q2, i2⟩ := impl_rising l2 h2 k (by omega)
    obtain ⟨b3, q3, i3⟩ := impl_rising l3 h3 k (by omega)
    obtain ⟨b4, q4, i4⟩ := impl_areWithin_f l2 0 (w * (h + 1) - 1)
    obtain ⟨b5, q5, i5⟩ := impl_areWithin_f l3 0 (h * (w + 1) - 1)
    rw [q2, q3, q4, q5]
    simp only [Option.bind_some]
    refine ⟨b2 && (b3 && (b4 && b5)), by cases b2 <;> cases b3 <;> cases b4 <;> rfl, ?_⟩
    simp only [Bool.and_eq_true, i2, i3, i4, i5]
    exact ⟨fun ⟨a, b, c, d⟩ => ⟨hc.1, hc.2.1, hc.2.2.1, hc.2.2.2, a, b, c, d⟩, fun x => ⟨x.r2, x.r3, x.in2, x.in3⟩⟩
  · rw [if_neg (by simpa using hc)]
    refine ⟨false, rfl, ?_⟩
    simp
    exact fun x => hc ⟨x.w1, x.w4, x.h1, x.h4⟩
theorem spec_fiGood_f (w h : Int) (l2 l3 : List Int) (h2 : l2.length ≤ 4611686018427387904) (h3 : l3.length ≤ 4611686018427387904) (k : Nat) (hk : l2.length + l3.length + 5 ≤ k) : ∃ b, spec_fiGood.f k w h l2 l3 = some b ∧ (b = true ↔ FigOK w h l2 l3) := by
  unfold spec_fiGood.f
  rw [spec_fiGrid_f]
  simp only [Option.bind_some]
  by_cases hc : 1 ≤ w ∧ w ≤ 4 ∧ 1 ≤ h ∧ h ≤ 4
  · rw [if_pos (by simpa using hc)]
    obtain ⟨e1, e2, e3, _⟩ := grid_mul hc.1 hc.2.1 hc.2.2.1 hc.2.2.2
    obtain ⟨m1, m2, m3, m4, _⟩ := mul_bounds hc.1 hc.2.1 hc.2.2.1 hc.2.2.2
    rw [e1, e3, w64 (w * (h + 1) - 1) (by omega) (by omega), w64 (h * (w + 1) - 1) (by omega) (by omega)]
    obtain ⟨b2, q2, i2⟩ := spec_fiRises_f l2 (w * (h + 1) - 1) (by omega) (by omega) h2 k (by omega)
    obtain ⟨b3, q3, i3⟩ := spec_fiRises_f l3 (h * (w + 1) - 1) (by omega) (by omega) h3 k (by omega)
    rw [q2, q3]
    simp only [Option.bind_some]
    refine ⟨b2 && b3, by cases b2 <;> cases b3 <;> rfl, ?_⟩
    simp only [Bool.and_eq_true, i2, i3]
    exact ⟨fun ⟨⟨a, c⟩, b, d⟩ => ⟨hc.1, hc.2.1, hc.2.2.1, hc.2.2.2, a, b, c, d⟩, fun x => ⟨⟨x.r2, x.in2⟩, x.r3, x.in3⟩⟩
  · rw [if_neg (by simpa using hc)]
    refine ⟨false, rfl, ?_⟩
    simp
    exact fun x => hc ⟨x.w1, x.w4, x.h1, x.h4⟩
/-- both tell the same -/
theorem fig_same (w h : Int) (l2 l3 : List Int) (h2 : l2.length ≤ 4611686018427387904) (h3 : l3.length ≤ 4611686018427387904) (k : Nat) (hk : l2.length + l3.length + 5 ≤ k) : ∃ b, impl_IsFigure.f k w h l2 l3 = some b ∧ spec_fiGood.f k w h l2 l3 = some b ∧ (b = true ↔ FigOK w h l2 l3) := by
  obtain ⟨b, q, i⟩ := impl_IsFigure_f w h l2 l3 h2 h3 k hk
  obtain ⟨c, r, j⟩ := spec_fiGood_f w h l2 l3 h2 h3 k hk
  have : b = c := by rw [Bool.eq_iff_iff, i, j]
  subst this
  exact ⟨b, q, r, i⟩

/-! Sets of edges as bits. -/
theorem rise_lt {l : List Int} (h : Rise l) : ∀ (d i : Nat), i + d + 1 < l.length → rd l (i : Int) < rd l ((i + d + 1 : Nat) : Int) := by
  intro d
  induction d with
  | zero =>
    intro i hi
    have := h (i + 1) (by omega) (by omega)
    rw [show ((i + 1 : Nat) : Int) - 1 = (i : Int) by omega] at this
    exact this
  | succ d ih =>
    intro i hi
    have h1 := ih i (by omega)
    have h2 := h (i + (d + 1) + 1) (by omega) hi
    rw [show ((i + (d + 1) + 1 : Nat) : Int) - 1 = ((i + d + 1 : Nat) : Int) by omega] at h2
    omega
theorem rise_pairwise {l : List Int} (h : Rise l) : l.Pairwise (· < ·) := by
  rw [List.pairwise_iff_getElem]
  intro i j hi hj hij
  have := rise_lt h (j - i - 1) i (by omega)
  rw [show i + (j - i - 1) + 1 = j by omega] at this
  simpa [rd, hi, hj] using this
theorem pairwise_rise {l : List Int} (h : l.Pairwise (· < ·)) : Rise l := by
  intro j h1 hj
  rw [List.pairwise_iff_getElem] at h
  have := h (j - 1) j (by omega) hj (by omega)
  have e1 : rd l ((j : Int) - 1) = l[j - 1] := by
    rw [show (j : Int) - 1 = ((j - 1 : Nat) : Int) by omega]
    simp [rd, show j - 1 < l.length by omega]
  have e2 : rd l (j : Int) = l[j] := by simp [rd, hj]
  rw [e1, e2]; exact this
theorem rise_iff (l : List Int) : Rise l ↔ l.Pairwise (· < ·) := ⟨rise_pairwise, pairwise_rise⟩

theorem pow64 {x : Nat} (h : x < 64) : 2 ^ x < 18446744073709551616 := Nat.lt_of_lt_of_le (Nat.pow_lt_pow_right (by decide) h) (by decide)
theorem shl_one (x : Int) (h0 : 0 ≤ x) (h : x < 64) : shl .u64 1 x = ((2 ^ x.toNat : Nat) : Int) := by
  unfold shl
  have hx : x.toNat < 64 := by omega
  have e : min x.toNat (IntKind.u64.bits) = x.toNat := Nat.min_eq_left (by show x.toNat ≤ 64; omega)
  rw [e, IntKind.wrap_u64, Int.one_mul]
  have := pow64 hx
  have e2 : ((2 : Int) ^ x.toNat) = ((2 ^ x.toNat : Nat) : Int) := by push_cast; rfl
  rw [e2]
  exact Int.emod_eq_of_lt (Int.natCast_nonneg _) (Int.ofNat_lt.mpr this)
theorem or64 {a b : Nat} (ha : a < 18446744073709551616) (hb : b < 18446744073709551616) : a ||| b < 18446744073709551616 := Nat.or_lt_two_pow (n := 64) ha hb
/-- bits laid on, one after the other -/
def acc (base : Int) (l : List Int) (m : Nat) : Nat := l.foldl (fun m x => m ||| 2 ^ (base + x).toNat) m
theorem acc_lt (base : Int) : ∀ (l : List Int) (m : Nat), m < 18446744073709551616 → (∀ x ∈ l, 0 ≤ base + x ∧ base + x < 64) → acc base l m < 18446744073709551616 := by
  intro l
  induction l with
  | nil => intro m hm _; exact hm
  | cons x l ih =>
    intro m hm h
    have hx := h x (by simp)
    exact ih _ (or64 hm (pow64 (by omega))) (fun y hy => h y (by simp [hy]))
theorem acc_testBit (base : Int) : ∀ (l : List Int) (m j : Nat), (∀ x ∈ l, 0 ≤ base + x) → ((acc base l m).testBit j = true ↔ m.testBit j = true ∨ ((j : Int) - base) ∈ l) := by
  intro l
  induction l with
  | nil => intro m j _; simp [acc]
  | cons x l ih =>
    intro m j h
    have hx := h x (by simp)
    show (acc base l (m ||| 2 ^ (base + x).toNat)).testBit j = true ↔ _
    rw [ih _ j (fun y hy => h y (by simp [hy])), Nat.testBit_or, Nat.testBit_two_pow]
    simp only [Bool.or_eq_true, decide_eq_true_eq, List.mem_cons]
    constructor
    · rintro ((h1 | h1) | h1)
      · exact .inl h1
      · exact .inr (.inl (by omega))
      · exact .inr (.inr h1)
    · rintro (h1 | h1 | h1)
      · exact .inl (.inl h1)
      · exact .inl (.inr (by omega))
      · exact .inr h1
theorem pcn_or (n : Nat) : ∀ (m k : Nat), k < n → m.testBit k = false → pcn n (m ||| 2 ^ k) = pcn n m + 1 := by
  induction n with
  | zero => intro m k h; omega
  | succ n ih =>
    intro m k hk hb
    simp only [pcn]
    cases k with
    | zero =>
      have h0 : m % 2 = 0 := by
        have : m.testBit 0 = decide (m % 2 = 1) := by simp [Nat.testBit_zero]
        rw [this] at hb
        simp at hb
        omega
      have e1 : (m ||| 2 ^ 0) % 2 = 1 := by
        have : (m ||| 2 ^ 0).testBit 0 = true := by simp [Nat.testBit_or]
        rw [Nat.testBit_zero] at this
        simpa using this
      have e2 : (m ||| 2 ^ 0) / 2 = m / 2 := by
        apply Nat.eq_of_testBit_eq
        intro i
        rw [Nat.testBit_div_two, Nat.testBit_or, Nat.testBit_two_pow, Nat.testBit_div_two]
        simp
      rw [e1, e2]; omega
    | succ k =>
      have hb2 : (m / 2).testBit k = false := by rw [Nat.testBit_div_two]; exact hb
      have e1 : (m ||| 2 ^ (k + 1)) % 2 = m % 2 := by
        have h1 : (m ||| 2 ^ (k + 1)).testBit 0 = m.testBit 0 := by rw [Nat.testBit_or, Nat.testBit_two_pow]; simp
        rw [Nat.testBit_zero, Nat.testBit_zero, decide_eq_decide] at h1
        omega
      have e2 : (m ||| 2 ^ (k + 1)) / 2 = m / 2 ||| 2 ^ k := by
        apply Nat.eq_of_testBit_eq
        intro i
        rw [Nat.testBit_div_two, Nat.testBit_or, Nat.testBit_two_pow, Nat.testBit_or, Nat.testBit_div_two, Nat.testBit_two_pow]
        congr 1
        simp
      rw [e1, e2, ih _ k (by omega) hb2]; omega
theorem acc_count (base : Int) : ∀ (l : List Int) (m : Nat), l.Pairwise (· < ·) → (∀ x ∈ l, 0 ≤ base + x ∧ base + x < 64) → (∀ x ∈ l, m.testBit (base + x).toNat = false) → pcn 64 (acc base l m) = pcn 64 m + l.length := by
  intro l
  induction l with
  | nil => intro m _ _ _; simp [acc]
  | cons x l ih =>
    intro m hp h hb
    have hx := h x (by simp)
    rw [List.pairwise_cons] at hp
    show pcn 64 (acc base l (m ||| 2 ^ (base + x).toNat)) = _
    rw [ih _ hp.2 (fun y hy => h y (by simp [hy])) ?_, pcn_or 64 m _ (by omega) (hb x (by simp))]
    · simp; omega
    · intro y hy
      have h1 := hp.1 y hy
      rw [Nat.testBit_or, hb y (by simp [hy]), Nat.testBit_two_pow]
      simp; omega
/-- a figure's matches as bits: level ones first -/
def maskN (w h : Int) (l2 l3 : List Int) : Nat := acc (w * (h + 1)) l3 (acc 0 l2 0)
theorem FigOK.nums {w h : Int} {l2 l3 : List Int} (F : FigOK w h l2 l3) : 2 ≤ w * (h + 1) ∧ w * (h + 1) ≤ 20 ∧ 2 ≤ h * (w + 1) ∧ h * (w + 1) ≤ 20 ∧ (w + 1) * h = h * (w + 1) ∧ 1 ≤ w * h ∧ w * h ≤ 16 := mul_bounds F.w1 F.w4 F.h1 F.h4
theorem FigOK.range2 {w h : Int} {l2 l3 : List Int} (F : FigOK w h l2 l3) : ∀ x ∈ l2, 0 ≤ 0 + x ∧ 0 + x < 64 := fun x hx => by
  have := F.in2 x hx
  have := F.nums
  omega
theorem FigOK.range3 {w h : Int} {l2 l3 : List Int} (F : FigOK w h l2 l3) : ∀ x ∈ l3, 0 ≤ w * (h + 1) + x ∧ w * (h + 1) + x < 64 := fun x hx => by
  have := F.in3 x hx
  have := F.nums
  omega
theorem FigOK.mask_lt {w h : Int} {l2 l3 : List Int} (F : FigOK w h l2 l3) : maskN w h l2 l3 < 18446744073709551616 := acc_lt _ _ _ (acc_lt _ _ _ (by decide) F.range2) F.range3
theorem FigOK.mask_count {w h : Int} {l2 l3 : List Int} (F : FigOK w h l2 l3) : pcn 64 (maskN w h l2 l3) = l2.length + l3.length := by
  unfold maskN
  rw [acc_count _ _ _ (rise_pairwise F.r3) F.range3 ?_, acc_count _ _ _ (rise_pairwise F.r2) F.range2 (fun x hx => by simp)]
  · have : pcn 64 0 = 0 := by decide
    omega
  · intro x hx
    have h1 := F.range3 x hx
    cases hb : (acc 0 l2 0).testBit (w * (h + 1) + x).toNat with
    | false => rfl
    | true =>
      rw [acc_testBit _ _ _ _ (fun y hy => (F.range2 y hy).1)] at hb
      rcases hb with hb | hb
      · simp at hb
      · have := F.in2 _ hb
        have := (F.in3 x hx).1
        omega
/-- the program's set of a figure -/
theorem set_l1 (w h : Int) (hw1 : 1 ≤ w) (hw4 : w ≤ 4) (hh1 : 1 ≤ h) (hh4 : h ≤ 4) (l : List Int) (hl : ∀ x ∈ l, 0 ≤ w * (h + 1) + x ∧ w * (h + 1) + x < 64) (hn : l.length ≤ 4611686018427387904) (L2 L3 : List Int) : ∀ (d i k m : Nat), i + d = l.length → d < k → m < 18446744073709551616 →
    impl_Figure_set.l1 k (m : Int) l (l.length : Int) (i : Int) w h L2 L3 = some ((acc (w * (h + 1)) (l.drop i) m : Nat) : Int) := by
  intro d
  induction d with
  | zero =>
    intro i k m hi hk hm
    obtain ⟨k, rfl⟩ : ∃ q, k = q + 1 := ⟨k - 1, by omega⟩
    simp only [impl_Figure_set.l1]
    rw [if_neg (by omega), List.drop_of_length_le (by omega)]
    rfl
  | succ d ih =>
    intro i k m hi hk hm
    obtain ⟨k, rfl⟩ : ∃ q, k = q + 1 := ⟨k - 1, by omega⟩
    simp only [impl_Figure_set.l1]
    have hx := hl _ (rd_mem (l := l) (j := i) (by omega))
    obtain ⟨e1, _⟩ := grid_mul hw1 hw4 hh1 hh4
    obtain ⟨m1, m2, _⟩ := mul_bounds hw1 hw4 hh1 hh4
    rw [if_pos (by omega), if_pos (by omega), if_pos (by omega)]
    simp only [impl_Figure_grid.f, impl_grid_levels.f, Option.bind_some]
    rw [e1, w64 (w * (h + 1) + _) (by omega) (by omega), if_pos hx.1, shl_one _ hx.1 hx.2, u64_or_nat _ _ hm (pow64 (by omega)), w64 ((i : Int) + 1) (by omega) (by omega)]
    have := ih (i + 1) k (m ||| 2 ^ (w * (h + 1) + rd l (i : Int)).toNat) (by omega) (by omega) (or64 hm (pow64 (by omega)))
    rw [show ((i : Int) + 1) = ((i + 1 : Nat) : Int) by omega, this]
    rw [List.drop_eq_getElem_cons (show i < l.length by omega)]
    have e : rd l (i : Int) = l[i] := by simp [rd, show i < l.length by omega]
    rw [e]
    rfl
theorem set_l0 (w h : Int) (hw1 : 1 ≤ w) (hw4 : w ≤ 4) (hh1 : 1 ≤ h) (hh4 : h ≤ 4) (l L2 L3 : List Int) (hl : ∀ x ∈ l, 0 ≤ 0 + x ∧ 0 + x < 64) (hn : l.length ≤ 4611686018427387904) (h3 : ∀ x ∈ L3, 0 ≤ w * (h + 1) + x ∧ w * (h + 1) + x < 64) (hn3 : L3.length ≤ 4611686018427387904) : ∀ (d i k m : Nat), i + d = l.length → d + L3.length + 1 < k → m < 18446744073709551616 →
    impl_Figure_set.l0 k (m : Int) l (l.length : Int) (i : Int) w h L2 L3 = some ((acc (w * (h + 1)) L3 (acc 0 (l.drop i) m) : Nat) : Int) := by
  intro d
  induction d with
  | zero =>
    intro i k m hi hk hm
    obtain ⟨k, rfl⟩ : ∃ q, k = q + 1 := ⟨k - 1, by omega⟩
    simp only [impl_Figure_set.l0]
    rw [if_neg (by omega), List.drop_of_length_le (by omega)]
    have := set_l1 w h hw1 hw4 hh1 hh4 L3 h3 hn3 L2 L3 L3.length 0 k m (by omega) (by omega) hm
    simpa [acc] using this
  | succ d ih =>
    intro i k m hi hk hm
    obtain ⟨k, rfl⟩ : ∃ q, k = q + 1 := ⟨k - 1, by omega⟩
    simp only [impl_Figure_set.l0]
    have hx := hl _ (rd_mem (l := l) (j := i) (by omega))
    rw [Int.zero_add] at hx
    rw [if_pos (by omega), if_pos (by omega), if_pos (by omega), if_pos hx.1, shl_one _ hx.1 hx.2, u64_or_nat _ _ hm (pow64 (by omega)), w64 ((i : Int) + 1) (by omega) (by omega)]
    have := ih (i + 1) k (m ||| 2 ^ (rd l (i : Int)).toNat) (by omega) (by omega) (or64 hm (pow64 (by omega)))
    rw [show ((i : Int) + 1) = ((i + 1 : Nat) : Int) by omega, this]
    rw [List.drop_eq_getElem_cons (show i < l.length by omega)]
    have e : rd l (i : Int) = l[i] := by simp [rd, show i < l.length by omega]
    rw [e]
    simp only [acc, List.foldl_cons, Int.zero_add]
theorem set_f {w h : Int} {l2 l3 : List Int} (F : FigOK w h l2 l3) (h2 : l2.length ≤ 4611686018427387904) (h3 : l3.length ≤ 4611686018427387904) (k : Nat) (hk : l2.length + l3.length + 2 ≤ k) : impl_Figure_set.f k w h l2 l3 = some ((maskN w h l2 l3 : Nat) : Int) := by
  have := set_l0 w h F.w1 F.w4 F.h1 F.h4 l2 l2 l3 F.range2 h2 F.range3 h3 l2.length 0 k 0 (by omega) (by omega) (by decide)
  simpa [impl_Figure_set.f, maskN] using this

/-- as a rewrite that the kernel need not check by unfolding -/
theorem bnd {α β : Type} (x : α) (f : α → Option β) : (some x).bind f = f x := by
  cases (⟨()⟩ : Nonempty Unit)
  rfl
theorem few_same (w h : Int) (l2 l3 : List Int) (h2 : l2.length ≤ 4611686018427387904) (h3 : l3.length ≤ 4611686018427387904) (k : Nat) (hk : l2.length + l3.length + 5 ≤ k) : ∃ b, impl_isFew.f k w h l2 l3 = some b ∧ spec_sqFew.f k w h l2 l3 = some b ∧ (b = true ↔ FigOK w h l2 l3 ∧ w * h ≤ 9) := by
  obtain ⟨b, q, r, i⟩ := fig_same w h l2 l3 h2 h3 k hk
  unfold impl_isFew.f spec_sqFew.f
  rw [q, r]
  simp only [Option.bind_some]
  cases b with
  | false => exact ⟨false, rfl, rfl, by simpa using fun F => absurd (i.2 F) (by simp)⟩
  | true =>
    have F := i.1 rfl
    have := F.nums
    rw [w64 (w * h) (by omega) (by omega)]
    exact ⟨_, rfl, rfl, by simp [F]⟩
theorem right_same (w h : Int) (l2 l3 : List Int) (d4 : Int) (d5 : Bool) (h2 : l2.length ≤ 4611686018427387904) (h3 : l3.length ≤ 4611686018427387904) (k : Nat) (hk : l2.length + l3.length + 5 ≤ k) : ∃ b, impl_way_isRight.f k w h l2 l3 d4 d5 = some b ∧ spec_moAsked.f k w h l2 l3 d4 d5 = some b ∧ (b = true ↔ (FigOK w h l2 l3 ∧ w * h ≤ 9) ∧ 0 ≤ d4 ∧ d4 ≤ if d5 = true then 2 else 4) := by
  obtain ⟨b, q, r, i⟩ := few_same w h l2 l3 h2 h3 k hk
  unfold impl_way_isRight.f spec_moAsked.f
  rw [q, r]
  simp only [Option.bind_some, impl_within_f, spec_l1In_f]
  refine ⟨b && (decide (0 ≤ d4) && decide (d4 ≤ if d5 = true then 2 else 4)), ?_, ?_, ?_⟩
  · cases b <;> cases d5 <;> rfl
  · cases b <;> cases d5 <;> rfl
  · simp [i]
theorem count_m (m : Nat) (hm : m < 18446744073709551616) (n : Nat) (h : pcn 64 m = n) : impl_set_count.f (m : Int) = some (n : Int) := by
  have e := ones_f m hm
  rw [h] at e
  simp only [impl_set_count.f, e, Option.bind_some]
theorem count_f {w h : Int} {l2 l3 : List Int} (F : FigOK w h l2 l3) : impl_set_count.f ((maskN w h l2 l3 : Nat) : Int) = some ((l2.length + l3.length : Nat) : Int) :=
  count_m _ F.mask_lt _ F.mask_count

/-! The law's measure of its arguments: a list each is taken off what is left. -/
theorem sz_int (l : List Int) (a : Int) (h0 : 0 ≤ a) (ha : a ≤ 1000000) (hl : l.length ≤ maxLen) : ∃ r, laws_szIntS.f l a = some r ∧ (0 ≤ r → r = a - l.length) ∧ r ≤ 1000000 := by
  unfold laws_szIntS.f
  unfold maxLen at hl
  rw [w64 _ (by omega) (by omega)]
  by_cases hc : a - (l.length : Int) < 0
  · rw [if_pos hc]; exact ⟨_, rfl, by omega, by omega⟩
  · rw [if_neg hc]; exact ⟨_, rfl, fun _ => rfl, by omega⟩
theorem sz_fig (w h : Int) (l2 l3 : List Int) (a : Int) (h0 : 0 ≤ a) (ha : a ≤ 1000000) (h2 : l2.length ≤ maxLen) (h3 : l3.length ≤ maxLen) : ∃ r, laws_szFigure.f w h l2 l3 a = some r ∧ (0 ≤ r → r = a - l2.length - l3.length) ∧ r ≤ 1000000 := by
  unfold laws_szFigure.f
  obtain ⟨r, hr, i, j⟩ := sz_int l2 a h0 ha h2
  rw [hr]
  simp only [Option.bind_some]
  by_cases hc : r < 0
  · rw [if_pos hc]; exact ⟨_, rfl, by omega, by omega⟩
  · rw [if_neg hc]
    obtain ⟨s, hs, i2, j2⟩ := sz_int l3 r (by omega) j h3
    rw [hs]
    simp only [Option.bind_some]
    by_cases hd : s < 0
    · rw [if_pos hd]; exact ⟨_, rfl, by omega, by omega⟩
    · rw [if_neg hd]; exact ⟨_, rfl, fun _ => by rw [i2 (by omega), i (by omega)], by omega⟩

theorem sz_puzzle (w h : Int) (l2 l3 : List Int) (d4 : Int) (d5 : Bool) (d6 a : Int) (h0 : 0 ≤ a) (ha : a ≤ 1000000) (h2 : l2.length ≤ maxLen) (h3 : l3.length ≤ maxLen) : ∃ r, laws_szPuzzle.f w h l2 l3 d4 d5 d6 a = some r ∧ (0 ≤ r → r = a - l2.length - l3.length) ∧ r ≤ 1000000 := by
  unfold laws_szPuzzle.f
  obtain ⟨r, hr, i, j⟩ := sz_fig w h l2 l3 a h0 ha h2 h3
  rw [hr]
  simp only [Option.bind_some]
  by_cases hc : r < 0
  · rw [if_pos hc]; exact ⟨_, rfl, by omega, by omega⟩
  · rw [if_neg hc]; exact ⟨_, rfl, fun _ => i (by omega), by omega⟩

section
variable {H : Type} {enc : TypeId × Value → H} {P : Program} {W : World} {base : Nat} {held : Bool}
theorem open_row {t e : TypeId} {fuel : Nat} {v : Value} {x : DataW H × List MemPlace} (ht : P.underlying t = some (.slice e)) (he : P.underlying e = some (.int .i64)) (hc : P.cellsOf e = 1)
    (h : DataW.trod enc P W base (fun _ => true) held fuel t [v] = some x) :
    ∃ (A : Option Addr) (c : Nat) (l : List Int), v = .slice A l.length c ∧ l.length ≤ c ∧ l.length ≤ maxLen ∧ Kd.C (Kd.int .i64) W A l.length l ∧ ∀ n ∈ l, (Lit.int .i64 n).wf = true := by
  rcases open_ints ht he hc h with ⟨hcs, _⟩ | ⟨a, len, cap, zs, hcs, _, hl, hm, hz, _, hcell, hwf⟩
  · simp only [List.cons.injEq, and_true] at hcs
    subst hcs
    exact ⟨none, 0, [], rfl, Nat.le_refl _, Nat.zero_le _, Kd.C_nil _ _, fun n hn => by cases hn⟩
  · simp only [List.cons.injEq, and_true] at hcs
    subst hcs
    have hz2 : zs.length = cap := by simpa using hz
    have hlen : (zs.take len).length = len := by rw [List.length_take]; omega
    refine ⟨some a, cap, zs.take len, by rw [hlen], by omega, by omega, ?_, fun n hn => hwf n (List.mem_of_mem_take hn)⟩
    refine Kd.C_of_reads (d := (0 : Int)) (h1 := fun _ => rfl) ⟨rfl, by unfold maxLen at hm; omega, fun _ => ⟨a, rfl, fun j hj => ?_⟩⟩
    rw [hcell j (by omega)]
    rw [List.getD_eq_getElem?_getD, List.getD_eq_getElem?_getD, List.getElem?_take_of_lt (by omega)]
theorem open_num {t : TypeId} {fuel : Nat} {v : Value} {x : DataW H × List MemPlace} (ht : P.underlying t = some (.int .i64)) (h : DataW.trod enc P W base (fun _ => true) held fuel t [v] = some x) :
    ∃ n : Int, v = .int .i64 n ∧ (Lit.int .i64 n).wf = true := by
  obtain ⟨n, hv, _, hw⟩ := DataW.trod_int ht h
  simp only [List.cons.injEq, and_true] at hv
  exact ⟨n, hv, hw⟩
end
theorem cells1 : Try.prog.cellsOf 3 = 1 := by kernel_rfl
theorem cells2 : Try.prog.cellsOf 22 = 1 := by kernel_rfl
theorem cells3 : Try.prog.cellsOf 24 = 4 := by kernel_rfl
/-- a figure that came in, as cells -/
structure FigIn (W : World) (cs : List Value) (a0 a1 : Int) (A2 : Option Addr) (c2 : Nat) (l2 : List Int) (A3 : Option Addr) (c3 : Nat) (l3 : List Int) : Prop where
  cells : cs = [.int .i64 a0, .int .i64 a1, .slice A2 l2.length c2, .slice A3 l3.length c3]
  w0 : (Lit.int .i64 a0).wf = true
  w1 : (Lit.int .i64 a1).wf = true
  hc2 : l2.length ≤ c2
  hm2 : l2.length ≤ maxLen
  hr2 : Kd.C (Kd.int .i64) W A2 l2.length l2
  w2 : ∀ n ∈ l2, (Lit.int .i64 n).wf = true
  hc3 : l3.length ≤ c3
  hm3 : l3.length ≤ maxLen
  hr3 : Kd.C (Kd.int .i64) W A3 l3.length l3
  w3 : ∀ n ∈ l3, (Lit.int .i64 n).wf = true
/-- what the pure part may lean on: an argument that the law measures -/
structure FigW (a0 a1 : Int) (l2 l3 : List Int) : Prop where
  n2 : l2.length ≤ 1000000
  n3 : l3.length ≤ 1000000
  b0 : -9223372036854775808 ≤ a0 ∧ a0 ≤ 9223372036854775807
  b1 : -9223372036854775808 ≤ a1 ∧ a1 ≤ 9223372036854775807
theorem wf_range {n : Int} (h : (Lit.int .i64 n).wf = true) : -9223372036854775808 ≤ n ∧ n ≤ 9223372036854775807 := by
  have h2 : IntKind.i64.min ≤ n ∧ n ≤ IntKind.i64.max := by simpa [Lit.wf] using h
  exact h2
theorem FigIn.w {W : World} {cs : List Value} {a0 a1 : Int} {A2 : Option Addr} {c2 : Nat} {l2 : List Int} {A3 : Option Addr} {c3 : Nat} {l3 : List Int} (F : FigIn W cs a0 a1 A2 c2 l2 A3 c3 l3) (h2 : l2.length ≤ 1000000) (h3 : l3.length ≤ 1000000) : FigW a0 a1 l2 l3 :=
  ⟨h2, h3, wf_range F.w0, wf_range F.w1⟩
set_option maxRecDepth 100000 in
theorem open_fig {H : Type} {enc : TypeId × Value → H} {W : World} {base : Nat} {held : Bool} {fuel : Nat} {cs : List Value} {x : DataW H × List MemPlace} (h : DataW.trod enc Try.prog W base (fun _ => true) held fuel 24 cs = some x) :
    ∃ a0 a1 A2 c2 l2 A3 c3 l3, FigIn W cs a0 a1 A2 c2 l2 A3 c3 l3 := by
  obtain ⟨y0, y1, y2, y3, n, _, hl, h0, h1, h2, h3⟩ := trod_struct4 Try.underlying24 h
  rw [cells3] at hl
  match cs, hl with
  | [k0, k1, k2, k3], _ =>
    simp only [cells1, cells2, List.drop, List.take] at h0 h1 h2 h3
    obtain ⟨a0, rfl, w0⟩ := open_num Try.underlying3 h0
    obtain ⟨a1, rfl, w1⟩ := open_num Try.underlying3 h1
    obtain ⟨A2, c2, l2, rfl, hc2, hm2, hr2, w2⟩ := open_row Try.underlying22 Try.underlying3 cells1 h2
    obtain ⟨A3, c3, l3, rfl, hc3, hm3, hr3, w3⟩ := open_row Try.underlying22 Try.underlying3 cells1 h3
    exact ⟨a0, a1, A2, c2, l2, A3, c3, l3, rfl, w0, w1, hc2, hm2, hr2, w2, hc3, hm3, hr3, w3⟩

theorem cells5 : Try.prog.cellsOf 36 = 7 := by kernel_rfl
theorem cells6 : Try.prog.cellsOf 4 = 1 := by kernel_rfl
set_option maxRecDepth 100000 in
theorem open_puzzle {H : Type} {enc : TypeId × Value → H} {W : World} {base : Nat} {held : Bool} {r : Reach} {b0 : Nat} {v : Value} {d : DataW H} {p : List MemPlace} (hv : Value.okWide Try.prog W r b0 36 v) (h : DataW.Trod enc Try.prog W base (fun _ => true) held 36 v d p) :
    ∃ a0 a1 A2 c2 l2 A3 c3 l3 d4 d5 d6, v = .agg #[.int .i64 a0, .int .i64 a1, .slice A2 l2.length c2, .slice A3 l3.length c3, .int .i64 d4, .bool d5, .int .i64 d6] ∧ (Lit.int .i64 d4).wf = true ∧ (Lit.int .i64 d6).wf = true ∧ FigIn W [.int .i64 a0, .int .i64 a1, .slice A2 l2.length c2, .slice A3 l3.length c3] a0 a1 A2 c2 l2 A3 c3 l3 := by
  obtain ⟨cs, rfl, hsz⟩ := okWide_struct Try.underlying36 hv
  rw [cells5] at hsz
  obtain ⟨fuel, hf⟩ := h
  obtain ⟨y0, y1, y2, y3, n, _, _, h0, h1, h2, h3⟩ := trod_struct4 Try.underlying36 hf
  match cs, hsz with
  | ⟨[k0, k1, k2, k3, k4, k5, k6]⟩, _ =>
    simp only [cells1, cells3, cells6, Value.cells, List.drop, List.take] at h0 h1 h2 h3
    obtain ⟨d4, rfl, w4⟩ := open_num Try.underlying3 h1
    obtain ⟨d5, hd5, _⟩ := DataW.trod_bool Try.underlying4 h2
    simp only [List.cons.injEq, and_true] at hd5
    subst hd5
    obtain ⟨d6, rfl, w6⟩ := open_num Try.underlying3 h3
    obtain ⟨a0, a1, A2, c2, l2, A3, c3, l3, F⟩ := open_fig h0
    have := F.cells
    simp only [List.cons.injEq, and_true] at this
    obtain ⟨rfl, rfl, rfl, rfl⟩ := this
    exact ⟨a0, a1, A2, c2, l2, A3, c3, l3, d4, d5, d6, rfl, w4, w6, F⟩

theorem IsPuzzle_same (w h : Int) (l2 l3 : List Int) (d4 : Int) (d5 : Bool) (d6 : Int) (h2 : l2.length ≤ 1000000) (h3 : l3.length ≤ 1000000) (k : Nat) (hk : l2.length + l3.length + 5 ≤ k) : ∃ b, spec_IsPuzzle.f k w h l2 l3 d4 d5 d6 = some b ∧ impl_IsPuzzle.f k w h l2 l3 d4 d5 d6 = some b := by
  obtain ⟨b, q, r, i⟩ := right_same w h l2 l3 d4 d5 (by omega) (by omega) k hk
  unfold spec_IsPuzzle.f impl_IsPuzzle.f spec_pzGood.f impl_Puzzle_way.f spec_fiCount.f spec_moSquares.f impl_isNumber.f
  simp only [bnd, q, r, impl_within_f, spec_l1In_f]
  cases b with
  | false =>
    simp only [Bool.false_eq_true, if_false]
    exact ⟨false, rfl, rfl⟩
  | true =>
    have F := (i.1 rfl).1.1
    have c := count_f F
    have s := set_f F (by omega) (by omega) k (by omega)
    generalize ((maskN w h l2 l3 : Nat) : Int) = M at *
    simp only [s, c, bnd, if_true]
    have e : wrap64 ((l2.length : Int) + (l3.length : Int)) = ((l2.length + l3.length : Nat) : Int) := by rw [w64 _ (by omega) (by omega)]; omega
    rw [e]
    by_cases hd : d4 ≤ ((l2.length + l3.length : Nat) : Int)
    · simp only [if_pos hd]; exact ⟨_, rfl, rfl⟩
    · simp only [if_neg hd]; exact ⟨_, rfl, rfl⟩
theorem IsPuzzle_pure (w h : Int) (l2 l3 : List Int) (d4 : Int) (d5 : Bool) (d6 : Int) (F : FigW w h l2 l3) (_w4 : (Lit.int .i64 d4).wf = true) (_w6 : (Lit.int .i64 d6).wf = true) : ∃ ks ki b, spec_IsPuzzle.f ks w h l2 l3 d4 d5 d6 = some b ∧ impl_IsPuzzle.f ki w h l2 l3 d4 d5 d6 = some b := by
  obtain ⟨b, q, r⟩ := IsPuzzle_same w h l2 l3 d4 d5 d6 F.n2 F.n3 (l2.length + l3.length + 5) (Nat.le_refl _)
  exact ⟨_, _, b, q, r⟩

theorem IsPuzzle_call {W : World} {a0 a1 : Int} {A2 : Option Addr} {c2 : Nat} {l2 : List Int} {A3 : Option Addr} {c3 : Nat} {l3 : List Int} (d4 : Int) (d5 : Bool) (d6 : Int) (F0 : FigIn W [.int .i64 a0, .int .i64 a1, .slice A2 l2.length c2, .slice A3 l3.length c3] a0 a1 A2 c2 l2 A3 c3 l3) (wd4 : (Lit.int .i64 d4).wf = true) (wd6 : (Lit.int .i64 d6).wf = true) :
    Calls Try.prog 4 #[.agg #[.int .i64 a0, .int .i64 a1, .slice A2 l2.length c2, .slice A3 l3.length c3, .int .i64 d4, .bool d5, .int .i64 d6]] W fun e W' => e = .returned (.bool true) ∧ Below W.heap.size W W' := by
  obtain ⟨z0, hsz0, hi0, hj0⟩ := sz_puzzle a0 a1 l2 l3 d4 d5 d6 1000000 (by omega) (by omega) F0.hm2 F0.hm3
  by_cases hneg0 : 0 ≤ z0
  · have e0 := hi0 hneg0
    obtain ⟨ks, ki, r0, hs, hp⟩ := IsPuzzle_pure a0 a1 l2 l3 d4 d5 d6 (F0.w (by omega) (by omega)) wd4 wd6
    exact law_IsPuzzle ks ki r0 z0 a0 a1 A2 c2 l2 A3 c3 l3 d4 d5 d6 W F0.hr2 F0.hr3 F0.hc2 F0.hc3 hsz0 (fun _ => ⟨by omega, by omega⟩) (fun _ => hs) (fun _ => hp)
  · exact law_IsPuzzle 0 0 false z0 a0 a1 A2 c2 l2 A3 c3 l3 d4 d5 d6 W F0.hr2 F0.hr3 F0.hc2 F0.hc3 hsz0 (fun h0 => absurd h0 hneg0) (fun h0 => absurd h0 hneg0) (fun h0 => absurd h0 hneg0)
theorem own : ownKnob Try.prog.godebug = none := by kernel_rfl
theorem laidOut : laidOutB Try.prog = true := by kernel_rfl
set_option maxRecDepth 100000 in
theorem lifted (os : Os) (started : os.Started) (H : Type) (enc : TypeId × Value → H) :
    ReturnsInHanded {} Try.checked os 4 .any (Rows.fnExactIsPuzzleSpec.pre6 enc Try.prog Try.f4 Rows.fnExactIsPuzzleRow.domain false) (Rows.fnExactIsPuzzleSpec.post enc Try.prog Try.f4 false true false false) := by
  refine returnsInHanded_of_change_sized (C := Try.checked) own started (by kernel_rfl) Try.func4
    (ChangeSpec.witness6 (enc := enc) (C := Try.checked) false ⟨#[], #[.agg #[.int .i64 0, .int .i64 0, .slice none 0 0, .slice none 0 0, .int .i64 0, .bool false, .int .i64 0]], []⟩ 8 (by kernel_rfl) (by kernel_rfl) (by kernel_rfl) (by kernel_rfl)) ?_
  intro W base args ds gs before hval0 hW hcnd hsz0 _
  have hval : ∀ (j : Nat) t v, Try.f4.params[j]? = some t → args[j]? = some v → Value.okWide Try.prog W .any base t v := hval0
  have hW' := hW
  obtain ⟨p, q, hA0, hV, rfl, hfz, hnd⟩ := hW
  have hA : DataW.TrodAll enc Try.prog W 0 (fun _ => true) true Try.f4.params.toList args.toList ds p := hA0
  rw [Try.params4] at hA hval
  obtain ⟨v0, vs0, d0, ds0, p0, q0, hargs, rfl, rfl, h0, t0⟩ := trodAll_cons hA
  obtain ⟨rfl, rfl, rfl⟩ := trodAll_nil t0
  obtain rfl : args = #[v0] := by cases args; simp_all
  obtain ⟨rfl, rfl⟩ := trodVars_none hV
  have kk0 := h0
  have lt0 : ∀ x ∈ p0, x.block < W.heap.size := by obtain ⟨m, hm⟩ := kk0; exact DataW.trod_lt m _ _ _ hm
  obtain ⟨a0, a1, A2, c2, l2, A3, c3, l3, d4, d5, d6, rfl, wd4, wd6, F0⟩ := open_puzzle (hval 0 36 v0 rfl rfl) h0
  clear hA0 hval0 hsz0
  refine (IsPuzzle_call d4 d5 d6 F0 wd4 wd6).mono fun e W' ⟨he, bel⟩ => ?_
  subst he
  exact ⟨_, rfl, _, _, _, [], _, [], hW', trodAll_mk1 (shut_bool Try.underlying4 _), (trodAll_cons_mk (Below.trod laidOut (by kernel_rfl) (of_decide_eq_true (by kernel_rfl)) kk0 bel lt0) trodAll_mk0), rfl, bel.frame _, fun h => by cases h⟩
theorem over : Rows.fnExactIsPuzzleRow.holds Try.pinned (OpenSpec.ofChange Rows.fnExactIsPuzzleSpec) :=
  OpenClaim.holds_of_wide 4 Try.f4 rfl rfl rfl rfl rfl rfl rfl ⟨rfl, rfl, rfl, rfl, rfl⟩ rfl rfl rfl rfl rfl (by kernel_rfl) Try.func4 (by kernel_rfl)
    (of_decide_eq_true (by kernel_rfl)) (by unfold Func.isWrapper; first | (rw [if_pos (by decide +kernel)]; kernel_rfl) | (rw [if_neg (by decide +kernel)]; exact ⟨rfl, rfl⟩))
    (fun os started H enc _ => lifted os started H enc)
theorem proved : Rows.FnExactIsPuzzleSaid := over

end Go.Proofs.Ytkmebbadjejheaa.A
namespace Go.Proofs.Ytkmebbadjejheaa
/-- The row, under a short name, for the claim. -/
theorem fnExactIsPuzzle_holds : Rows.FnExactIsPuzzleSaid := A.proved
#print axioms fnExactIsPuzzle_holds
end Go.Proofs.Ytkmebbadjejheaa
