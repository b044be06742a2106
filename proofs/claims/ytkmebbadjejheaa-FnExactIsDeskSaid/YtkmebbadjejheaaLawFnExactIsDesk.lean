/- For every desk that can be read the law FnExactIsDesk returns true and leaves its argument as it was: the program's IsDesk tells what the reference's tells. Conditions: none beyond the row's own. -/
import Derived.Test.YtkmebbadjejheaaRows
import Derived.Test.YtkmebbadjejheaaAd
import Derived.Test.YtkmebbadjejheaaAc2
import Derived.Test.YtkmebbadjejheaaAc3
import Derived.Test.YtkmebbadjejheaaAc8
import Derived.Test.YtkmebbadjejheaaAc9
import Derived.WalkKit
import Derived.ProofKit
import Derived.OpenShut
import Derived.ShutString
import Derived.ChangeOld
import Derived.Below
import Derived.SizedLaws
import Derived.Lib.SmallJoins
import Derived.Deep.LoopGhost
import Derived.Deep.Draws
import Derived.Deep.RegionHeld3
namespace Go.Proofs.Ytkmebbadjejheaa.A
open Go.ChangeShapes Go.WideShapes Go.ChangeAt Go.RowKit Go.Joins
open Go.ChangeMaps (open_string shut_string)
open Go.Proofs.YtkmebbadjejheaaW.PrintWords Go.Proofs.YtkmebbadjejheaaW.PrintLast Go.Proofs.YtkmebbadjejheaaW.PrintMore
attribute [local go_sem] max2_int min2_int max_two min_two max_three min_three max_four min_four
set_option linter.unusedVariables false
set_option linter.unusedSimpArgs false
set_option maxHeartbeats 8000000 in
set_option maxRecDepth 100000 in
theorem todesk_full (a0 a1 : Int) (A2 : Option Addr) (c2 : Nat) (l2 : List Int) (A3 : Option Addr) (c3 : Nat) (l3 : List Int) (d4 : Int) (w : World)
    (hr2 : Kd.C (Kd.int .i64) w A2 l2.length l2) (hr3 : Kd.C (Kd.int .i64) w A3 l3.length l3) (h2 : l2.length ≤ 1000000) (h3 : l3.length ≤ 1000000) :
    Calls Try.prog 9 #[.agg #[.int .i64 a0, .int .i64 a1, .slice A2 l2.length c2, .slice A3 l3.length c3, .int .i64 d4], .bool false] w fun e w' => ∃ v2 v3, e = .returned (.agg #[.int .i64 a0, .int .i64 a1, v2, v3, .int .i64 d4]) ∧ SpareFig w.heap.size w' v2 v3 l2 l3 ∧ Below w.heap.size w w' := by
  have C := fun W hr2 hr3 => tofig_full a0 a1 A2 c2 l2 A3 c3 l3 W hr2 hr3 h2 h3
  have HR2 := Aside0.mk hr2
  have HR3 := Aside0.mk hr3
  have hu := Try.underlying26
  have hu2 := Try.underlying31
  have hu3 := Try.underlying24
  have hu4 := Try.underlying29
  clear hr2 hr3
  go_enter Try.func9, Try.ntmps9
  go_wp2_with fail
  refine (C _ (Kd.C_alloc (Kd.C_alloc (Kd.C_alloc HR2.out _) _) _) (Kd.C_alloc (Kd.C_alloc (Kd.C_alloc HR3.out _) _) _)).mono ?_
  rintro e w1 ⟨v2, v3, rfl, ⟨⟨b2, b3, rfl, rfl, hne, s2, s3⟩⟩, hb⟩
  have hz2 : w.heap.size + 3 ≤ b2 := by have := s2.ge; simp at this; omega
  have hz3 : w.heap.size + 3 ≤ b3 := by have := s3.ge; simp at this; omega
  have B0 : w1.heap[w.heap.size]? = _ := (hb.block _ (by simp; try omega)).trans (heap_at3 _ _ _ _).1
  have B1 : w1.heap[w.heap.size + 1]? = _ := (hb.block _ (by simp; try omega)).trans (heap_at3 _ _ _ _).2.1
  have B2 : w1.heap[w.heap.size + 1 + 1]? = _ := (hb.block _ (by simp; try omega)).trans (heap_at3 _ _ _ _).2.2
  have k0_4 : w1.cell? ⟨w.heap.size, 4, none⟩ = some (.int .i64 d4) := (blk_cell B0 4).trans rfl
  have k2_0 : w1.cell? ⟨w.heap.size + 1 + 1, 0, none⟩ = some (.int .i64 0) := (blk_cell B2 0).trans rfl
  have f2_0 : w1.frozen? ⟨w.heap.size + 1 + 1, 0, none⟩ = false := blk_frozen B2 0
  have k1_0 : w1.cell? ⟨w.heap.size + 1, 0, none⟩ = some (.int .i64 0) := (blk_cell B1 0).trans rfl
  have f1_0 : w1.frozen? ⟨w.heap.size + 1, 0, none⟩ = false := blk_frozen B1 0
  have k2_1 : w1.cell? ⟨w.heap.size + 1 + 1, 1, none⟩ = some (.int .i64 0) := (blk_cell B2 1).trans rfl
  have f2_1 : w1.frozen? ⟨w.heap.size + 1 + 1, 1, none⟩ = false := blk_frozen B2 1
  have k1_1 : w1.cell? ⟨w.heap.size + 1, 1, none⟩ = some (.int .i64 0) := (blk_cell B1 1).trans rfl
  have f1_1 : w1.frozen? ⟨w.heap.size + 1, 1, none⟩ = false := blk_frozen B1 1
  have k2_2 : w1.cell? ⟨w.heap.size + 1 + 1, 2, none⟩ = some (.slice none 0 0) := (blk_cell B2 2).trans rfl
  have f2_2 : w1.frozen? ⟨w.heap.size + 1 + 1, 2, none⟩ = false := blk_frozen B2 2
  have k1_2 : w1.cell? ⟨w.heap.size + 1, 2, none⟩ = some (.slice none 0 0) := (blk_cell B1 2).trans rfl
  have f1_2 : w1.frozen? ⟨w.heap.size + 1, 2, none⟩ = false := blk_frozen B1 2
  have k2_3 : w1.cell? ⟨w.heap.size + 1 + 1, 3, none⟩ = some (.slice none 0 0) := (blk_cell B2 3).trans rfl
  have f2_3 : w1.frozen? ⟨w.heap.size + 1 + 1, 3, none⟩ = false := blk_frozen B2 3
  have k1_3 : w1.cell? ⟨w.heap.size + 1, 3, none⟩ = some (.slice none 0 0) := (blk_cell B1 3).trans rfl
  have f1_3 : w1.frozen? ⟨w.heap.size + 1, 3, none⟩ = false := blk_frozen B1 3
  have k2_4 : w1.cell? ⟨w.heap.size + 1 + 1, 4, none⟩ = some (.int .i64 0) := (blk_cell B2 4).trans rfl
  have f2_4 : w1.frozen? ⟨w.heap.size + 1 + 1, 4, none⟩ = false := blk_frozen B2 4
  have k1_4 : w1.cell? ⟨w.heap.size + 1, 4, none⟩ = some (.int .i64 0) := (blk_cell B1 4).trans rfl
  have f1_4 : w1.frozen? ⟨w.heap.size + 1, 4, none⟩ = false := blk_frozen B1 4
  have X1 := Aside0.mk B1
  have X2 := Aside0.mk B2
  have S2 := Aside0.mk s2
  have S3 := Aside0.mk s3
  have HB := Aside0.mk (below_step (below_alloc (below_alloc (below_alloc (Below.refl w.heap.size w) _) _) _) hb)
  have HN := Aside0.mk hne
  clear B0 B1 B2 s2 s3 hb hne
  go_wp2_with fail
  refine bodyPost_ret (results_cell_row rfl _ _ (w.heap.size + 1) 31 #[.int .i64 a0, .int .i64 a1, .slice (some ⟨b2, 0, none⟩) l2.length (l2.length + room l2.length), .slice (some ⟨b3, 0, none⟩) l3.length (l3.length + room l3.length), .int .i64 d4] (0, 0) _ rfl ?_ Try.underlying31 rfl (by kernel_rfl)) rfl ?_
  · refine blk_put (cs := #[.int .i64 a0, .int .i64 a1, .slice (some ⟨b2, 0, none⟩) l2.length (l2.length + room l2.length), .slice (some ⟨b3, 0, none⟩) l3.length (l3.length + room l3.length), .int .i64 0]) ?_ 4 _ rfl
    refine blk_put (cs := #[.int .i64 a0, .int .i64 a1, .slice (some ⟨b2, 0, none⟩) l2.length (l2.length + room l2.length), .slice none 0 0, .int .i64 0]) ?_ 3 _ rfl
    refine blk_put (cs := #[.int .i64 a0, .int .i64 a1, .slice none 0 0, .slice none 0 0, .int .i64 0]) ?_ 2 _ rfl
    refine blk_put (cs := #[.int .i64 a0, .int .i64 0, .slice none 0 0, .slice none 0 0, .int .i64 0]) ?_ 1 _ rfl
    refine blk_put (cs := #[.int .i64 0, .int .i64 0, .slice none 0 0, .slice none 0 0, .int .i64 0]) ?_ 0 _ rfl
    refine blk_far ?_ (p := ⟨w.heap.size + 1 + 1, 4, none⟩) (by simp) _
    refine blk_far ?_ (p := ⟨w.heap.size + 1 + 1, 3, none⟩) (by simp) _
    refine blk_far ?_ (p := ⟨w.heap.size + 1 + 1, 2, none⟩) (by simp) _
    refine blk_far ?_ (p := ⟨w.heap.size + 1 + 1, 1, none⟩) (by simp) _
    refine blk_far ?_ (p := ⟨w.heap.size + 1 + 1, 0, none⟩) (by simp) _
    exact X1.out
  · refine ⟨_, _, rfl, ⟨b2, b3, rfl, rfl, HN.out, ⟨by omega, (Spare.set (Spare.set (Spare.set (Spare.set (Spare.set (Spare.set (Spare.set (Spare.set (Spare.set (Spare.set S2.out (p := ⟨w.heap.size + 1 + 1, 0, none⟩) (by simp; omega) _) (p := ⟨w.heap.size + 1 + 1, 1, none⟩) (by simp; omega) _) (p := ⟨w.heap.size + 1 + 1, 2, none⟩) (by simp; omega) _) (p := ⟨w.heap.size + 1 + 1, 3, none⟩) (by simp; omega) _) (p := ⟨w.heap.size + 1 + 1, 4, none⟩) (by simp; omega) _) (p := ⟨w.heap.size + 1, 0, none⟩) (by simp; omega) _) (p := ⟨w.heap.size + 1, 1, none⟩) (by simp; omega) _) (p := ⟨w.heap.size + 1, 2, none⟩) (by simp; omega) _) (p := ⟨w.heap.size + 1, 3, none⟩) (by simp; omega) _) (p := ⟨w.heap.size + 1, 4, none⟩) (by simp; omega) _).blk⟩, ⟨by omega, (Spare.set (Spare.set (Spare.set (Spare.set (Spare.set (Spare.set (Spare.set (Spare.set (Spare.set (Spare.set S3.out (p := ⟨w.heap.size + 1 + 1, 0, none⟩) (by simp; omega) _) (p := ⟨w.heap.size + 1 + 1, 1, none⟩) (by simp; omega) _) (p := ⟨w.heap.size + 1 + 1, 2, none⟩) (by simp; omega) _) (p := ⟨w.heap.size + 1 + 1, 3, none⟩) (by simp; omega) _) (p := ⟨w.heap.size + 1 + 1, 4, none⟩) (by simp; omega) _) (p := ⟨w.heap.size + 1, 0, none⟩) (by simp; omega) _) (p := ⟨w.heap.size + 1, 1, none⟩) (by simp; omega) _) (p := ⟨w.heap.size + 1, 2, none⟩) (by simp; omega) _) (p := ⟨w.heap.size + 1, 3, none⟩) (by simp; omega) _) (p := ⟨w.heap.size + 1, 4, none⟩) (by simp; omega) _).blk⟩⟩, ?_⟩
    repeat (refine below_set ?_ (by omega))
    exact HB.out

set_option maxHeartbeats 8000000 in
set_option maxRecDepth 100000 in
theorem topuzzle_full (a0 a1 : Int) (A2 : Option Addr) (c2 : Nat) (l2 : List Int) (A3 : Option Addr) (c3 : Nat) (l3 : List Int) (d4 : Int) (d5 : Bool) (d6 : Int) (w : World)
    (hr2 : Kd.C (Kd.int .i64) w A2 l2.length l2) (hr3 : Kd.C (Kd.int .i64) w A3 l3.length l3) (h2 : l2.length ≤ 1000000) (h3 : l3.length ≤ 1000000) :
    Calls Try.prog 14 #[.agg #[.int .i64 a0, .int .i64 a1, .slice A2 l2.length c2, .slice A3 l3.length c3, .int .i64 d4, .bool d5, .int .i64 d6], .bool false] w fun e w' => ∃ v2 v3, e = .returned (.agg #[.int .i64 a0, .int .i64 a1, v2, v3, .int .i64 d4, .bool d5, .int .i64 d6]) ∧ SpareFig w.heap.size w' v2 v3 l2 l3 ∧ Below w.heap.size w w' := by
  have C := fun W hr2 hr3 => tofig_full a0 a1 A2 c2 l2 A3 c3 l3 W hr2 hr3 h2 h3
  have HR2 := Aside0.mk hr2
  have HR3 := Aside0.mk hr3
  have hu := Try.underlying36
  have hu2 := Try.underlying40
  have hu3 := Try.underlying24
  have hu4 := Try.underlying29
  clear hr2 hr3
  go_enter Try.func14, Try.ntmps14
  go_wp2_with fail
  refine (C _ (Kd.C_alloc (Kd.C_alloc (Kd.C_alloc HR2.out _) _) _) (Kd.C_alloc (Kd.C_alloc (Kd.C_alloc HR3.out _) _) _)).mono ?_
  rintro e w1 ⟨v2, v3, rfl, ⟨⟨b2, b3, rfl, rfl, hne, s2, s3⟩⟩, hb⟩
  have hz2 : w.heap.size + 3 ≤ b2 := by have := s2.ge; simp at this; omega
  have hz3 : w.heap.size + 3 ≤ b3 := by have := s3.ge; simp at this; omega
  have B0 : w1.heap[w.heap.size]? = _ := (hb.block _ (by simp; try omega)).trans (heap_at3 _ _ _ _).1
  have B1 : w1.heap[w.heap.size + 1]? = _ := (hb.block _ (by simp; try omega)).trans (heap_at3 _ _ _ _).2.1
  have B2 : w1.heap[w.heap.size + 1 + 1]? = _ := (hb.block _ (by simp; try omega)).trans (heap_at3 _ _ _ _).2.2
  have k0_4 : w1.cell? ⟨w.heap.size, 4, none⟩ = some (.int .i64 d4) := (blk_cell B0 4).trans rfl
  have k0_5 : w1.cell? ⟨w.heap.size, 5, none⟩ = some (.bool d5) := (blk_cell B0 5).trans rfl
  have k0_6 : w1.cell? ⟨w.heap.size, 6, none⟩ = some (.int .i64 d6) := (blk_cell B0 6).trans rfl
  have k2_0 : w1.cell? ⟨w.heap.size + 1 + 1, 0, none⟩ = some (.int .i64 0) := (blk_cell B2 0).trans rfl
  have f2_0 : w1.frozen? ⟨w.heap.size + 1 + 1, 0, none⟩ = false := blk_frozen B2 0
  have k1_0 : w1.cell? ⟨w.heap.size + 1, 0, none⟩ = some (.int .i64 0) := (blk_cell B1 0).trans rfl
  have f1_0 : w1.frozen? ⟨w.heap.size + 1, 0, none⟩ = false := blk_frozen B1 0
  have k2_1 : w1.cell? ⟨w.heap.size + 1 + 1, 1, none⟩ = some (.int .i64 0) := (blk_cell B2 1).trans rfl
  have f2_1 : w1.frozen? ⟨w.heap.size + 1 + 1, 1, none⟩ = false := blk_frozen B2 1
  have k1_1 : w1.cell? ⟨w.heap.size + 1, 1, none⟩ = some (.int .i64 0) := (blk_cell B1 1).trans rfl
  have f1_1 : w1.frozen? ⟨w.heap.size + 1, 1, none⟩ = false := blk_frozen B1 1
  have k2_2 : w1.cell? ⟨w.heap.size + 1 + 1, 2, none⟩ = some (.slice none 0 0) := (blk_cell B2 2).trans rfl
  have f2_2 : w1.frozen? ⟨w.heap.size + 1 + 1, 2, none⟩ = false := blk_frozen B2 2
  have k1_2 : w1.cell? ⟨w.heap.size + 1, 2, none⟩ = some (.slice none 0 0) := (blk_cell B1 2).trans rfl
  have f1_2 : w1.frozen? ⟨w.heap.size + 1, 2, none⟩ = false := blk_frozen B1 2
  have k2_3 : w1.cell? ⟨w.heap.size + 1 + 1, 3, none⟩ = some (.slice none 0 0) := (blk_cell B2 3).trans rfl
  have f2_3 : w1.frozen? ⟨w.heap.size + 1 + 1, 3, none⟩ = false := blk_frozen B2 3
  have k1_3 : w1.cell? ⟨w.heap.size + 1, 3, none⟩ = some (.slice none 0 0) := (blk_cell B1 3).trans rfl
  have f1_3 : w1.frozen? ⟨w.heap.size + 1, 3, none⟩ = false := blk_frozen B1 3
  have k2_4 : w1.cell? ⟨w.heap.size + 1 + 1, 4, none⟩ = some (.int .i64 0) := (blk_cell B2 4).trans rfl
  have f2_4 : w1.frozen? ⟨w.heap.size + 1 + 1, 4, none⟩ = false := blk_frozen B2 4
  have k1_4 : w1.cell? ⟨w.heap.size + 1, 4, none⟩ = some (.int .i64 0) := (blk_cell B1 4).trans rfl
  have f1_4 : w1.frozen? ⟨w.heap.size + 1, 4, none⟩ = false := blk_frozen B1 4
  have k2_5 : w1.cell? ⟨w.heap.size + 1 + 1, 5, none⟩ = some (.bool false) := (blk_cell B2 5).trans rfl
  have f2_5 : w1.frozen? ⟨w.heap.size + 1 + 1, 5, none⟩ = false := blk_frozen B2 5
  have k1_5 : w1.cell? ⟨w.heap.size + 1, 5, none⟩ = some (.bool false) := (blk_cell B1 5).trans rfl
  have f1_5 : w1.frozen? ⟨w.heap.size + 1, 5, none⟩ = false := blk_frozen B1 5
  have k2_6 : w1.cell? ⟨w.heap.size + 1 + 1, 6, none⟩ = some (.int .i64 0) := (blk_cell B2 6).trans rfl
  have f2_6 : w1.frozen? ⟨w.heap.size + 1 + 1, 6, none⟩ = false := blk_frozen B2 6
  have k1_6 : w1.cell? ⟨w.heap.size + 1, 6, none⟩ = some (.int .i64 0) := (blk_cell B1 6).trans rfl
  have f1_6 : w1.frozen? ⟨w.heap.size + 1, 6, none⟩ = false := blk_frozen B1 6
  have X1 := Aside0.mk B1
  have X2 := Aside0.mk B2
  have S2 := Aside0.mk s2
  have S3 := Aside0.mk s3
  have HB := Aside0.mk (below_step (below_alloc (below_alloc (below_alloc (Below.refl w.heap.size w) _) _) _) hb)
  have HN := Aside0.mk hne
  clear B0 B1 B2 s2 s3 hb hne
  go_wp2_with fail
  refine bodyPost_ret (results_cell_row rfl _ _ (w.heap.size + 1) 40 #[.int .i64 a0, .int .i64 a1, .slice (some ⟨b2, 0, none⟩) l2.length (l2.length + room l2.length), .slice (some ⟨b3, 0, none⟩) l3.length (l3.length + room l3.length), .int .i64 d4, .bool d5, .int .i64 d6] (0, 0) _ rfl ?_ Try.underlying40 rfl (by kernel_rfl)) rfl ?_
  · refine blk_put (cs := #[.int .i64 a0, .int .i64 a1, .slice (some ⟨b2, 0, none⟩) l2.length (l2.length + room l2.length), .slice (some ⟨b3, 0, none⟩) l3.length (l3.length + room l3.length), .int .i64 d4, .bool d5, .int .i64 0]) ?_ 6 _ rfl
    refine blk_put (cs := #[.int .i64 a0, .int .i64 a1, .slice (some ⟨b2, 0, none⟩) l2.length (l2.length + room l2.length), .slice (some ⟨b3, 0, none⟩) l3.length (l3.length + room l3.length), .int .i64 d4, .bool false, .int .i64 0]) ?_ 5 _ rfl
    refine blk_put (cs := #[.int .i64 a0, .int .i64 a1, .slice (some ⟨b2, 0, none⟩) l2.length (l2.length + room l2.length), .slice (some ⟨b3, 0, none⟩) l3.length (l3.length + room l3.length), .int .i64 0, .bool false, .int .i64 0]) ?_ 4 _ rfl
    refine blk_put (cs := #[.int .i64 a0, .int .i64 a1, .slice (some ⟨b2, 0, none⟩) l2.length (l2.length + room l2.length), .slice none 0 0, .int .i64 0, .bool false, .int .i64 0]) ?_ 3 _ rfl
    refine blk_put (cs := #[.int .i64 a0, .int .i64 a1, .slice none 0 0, .slice none 0 0, .int .i64 0, .bool false, .int .i64 0]) ?_ 2 _ rfl
    refine blk_put (cs := #[.int .i64 a0, .int .i64 0, .slice none 0 0, .slice none 0 0, .int .i64 0, .bool false, .int .i64 0]) ?_ 1 _ rfl
    refine blk_put (cs := #[.int .i64 0, .int .i64 0, .slice none 0 0, .slice none 0 0, .int .i64 0, .bool false, .int .i64 0]) ?_ 0 _ rfl
    refine blk_far ?_ (p := ⟨w.heap.size + 1 + 1, 6, none⟩) (by simp) _
    refine blk_far ?_ (p := ⟨w.heap.size + 1 + 1, 5, none⟩) (by simp) _
    refine blk_far ?_ (p := ⟨w.heap.size + 1 + 1, 4, none⟩) (by simp) _
    refine blk_far ?_ (p := ⟨w.heap.size + 1 + 1, 3, none⟩) (by simp) _
    refine blk_far ?_ (p := ⟨w.heap.size + 1 + 1, 2, none⟩) (by simp) _
    refine blk_far ?_ (p := ⟨w.heap.size + 1 + 1, 1, none⟩) (by simp) _
    refine blk_far ?_ (p := ⟨w.heap.size + 1 + 1, 0, none⟩) (by simp) _
    exact X1.out
  · refine ⟨_, _, rfl, ⟨b2, b3, rfl, rfl, HN.out, ⟨by omega, (Spare.set (Spare.set (Spare.set (Spare.set (Spare.set (Spare.set (Spare.set (Spare.set (Spare.set (Spare.set (Spare.set (Spare.set (Spare.set (Spare.set S2.out (p := ⟨w.heap.size + 1 + 1, 0, none⟩) (by simp; omega) _) (p := ⟨w.heap.size + 1 + 1, 1, none⟩) (by simp; omega) _) (p := ⟨w.heap.size + 1 + 1, 2, none⟩) (by simp; omega) _) (p := ⟨w.heap.size + 1 + 1, 3, none⟩) (by simp; omega) _) (p := ⟨w.heap.size + 1 + 1, 4, none⟩) (by simp; omega) _) (p := ⟨w.heap.size + 1 + 1, 5, none⟩) (by simp; omega) _) (p := ⟨w.heap.size + 1 + 1, 6, none⟩) (by simp; omega) _) (p := ⟨w.heap.size + 1, 0, none⟩) (by simp; omega) _) (p := ⟨w.heap.size + 1, 1, none⟩) (by simp; omega) _) (p := ⟨w.heap.size + 1, 2, none⟩) (by simp; omega) _) (p := ⟨w.heap.size + 1, 3, none⟩) (by simp; omega) _) (p := ⟨w.heap.size + 1, 4, none⟩) (by simp; omega) _) (p := ⟨w.heap.size + 1, 5, none⟩) (by simp; omega) _) (p := ⟨w.heap.size + 1, 6, none⟩) (by simp; omega) _).blk⟩, ⟨by omega, (Spare.set (Spare.set (Spare.set (Spare.set (Spare.set (Spare.set (Spare.set (Spare.set (Spare.set (Spare.set (Spare.set (Spare.set (Spare.set (Spare.set S3.out (p := ⟨w.heap.size + 1 + 1, 0, none⟩) (by simp; omega) _) (p := ⟨w.heap.size + 1 + 1, 1, none⟩) (by simp; omega) _) (p := ⟨w.heap.size + 1 + 1, 2, none⟩) (by simp; omega) _) (p := ⟨w.heap.size + 1 + 1, 3, none⟩) (by simp; omega) _) (p := ⟨w.heap.size + 1 + 1, 4, none⟩) (by simp; omega) _) (p := ⟨w.heap.size + 1 + 1, 5, none⟩) (by simp; omega) _) (p := ⟨w.heap.size + 1 + 1, 6, none⟩) (by simp; omega) _) (p := ⟨w.heap.size + 1, 0, none⟩) (by simp; omega) _) (p := ⟨w.heap.size + 1, 1, none⟩) (by simp; omega) _) (p := ⟨w.heap.size + 1, 2, none⟩) (by simp; omega) _) (p := ⟨w.heap.size + 1, 3, none⟩) (by simp; omega) _) (p := ⟨w.heap.size + 1, 4, none⟩) (by simp; omega) _) (p := ⟨w.heap.size + 1, 5, none⟩) (by simp; omega) _) (p := ⟨w.heap.size + 1, 6, none⟩) (by simp; omega) _).blk⟩⟩, ?_⟩
    repeat (refine below_set ?_ (by omega))
    exact HB.out


theorem cut_past {P : Program} (t e : TypeId) {i : TypeInfo} (ht : P.underlying t = some (.slice e)) (hi : P.info? e = some i) (A : Option Addr) (n c : Nat) (j : Int) (h0 : 0 ≤ j) (hm : j ≤ c) :
    ∀ W : World, (Instr.slice t (.slice A n c) none (some (.int .i64 j)) none).run P W = .ok (.slice A j.toNat c) W := by
  intro W
  have hel : P.elem t = e := by simp [Program.elem, ht]
  have hu : P.underlying t = some (.slice (P.elem t)) := by rw [hel]; exact ht
  have ha : (A.map fun x => x.add 0) = A := by cases A <;> simp [Addr.add]
  rw [run_slice_h W t A n c hu .i64 j h0 hm, hel]
  simp [sizeOf, typeInfo, hi, sliced, Result.andThen, ha]
theorem spare_length (l : List Int) : (spare l).length = l.length + room l.length := by simp [spare]
theorem Spare.readsAll {base : Nat} {w' : World} {b : Nat} {l : List Int} (h : Spare base w' b l) (hlen : l.length ≤ 1000000) : Kd.C (Kd.int .i64) w' (some ⟨b, 0, none⟩) (spare l).length (spare l) := by
  have hroom : room l.length ≤ l.length + 1 := by unfold room; split <;> (try split) <;> omega
  refine Kd.C_of_reads (d := (0 : Int)) (h1 := fun _ => rfl) ?_
  refine ⟨rfl, by rw [spare_length]; omega, fun hp => ⟨_, rfl, fun j hj => ?_⟩⟩
  rw [Go.Proofs.YtkmebbadjejheaaW.PrintWords.add_plain, blk_cell h.blk j, numCells_get _ _ hj]
theorem eq_same (l : List Int) (h : l.length ≤ 9000000) : ∃ k, laws_eqIntS.f k l l = some true := by
  have key : ∀ d i : Nat, i + d = l.length → laws_eqIntS.l0 (d + 1) l l i = some true := by
    intro d
    induction d with
    | zero =>
      intro i hi
      simp only [laws_eqIntS.l0]
      rw [if_neg (by omega)]
    | succ d ih =>
      intro i hi
      have := ih (i + 1) (by omega)
      rw [laws_eqIntS.l0, if_pos (by omega), if_pos (by omega), if_pos (by omega), if_pos rfl]
      rw [show wrap64 ((i : Int) + 1) = ((i + 1 : Nat) : Int) by unfold wrap64; omega]
      exact this
  refine ⟨l.length + 1, ?_⟩
  unfold laws_eqIntS.f
  rw [if_pos rfl]
  exact key l.length 0 (by omega)
set_option maxHeartbeats 4000000 in
set_option maxRecDepth 100000 in
theorem intact_ok (base1 base2 b1 b2 : Nat) (l : List Int) (w : World) (s1 : Spare base1 w b1 l) (s2 : Spare base2 w b2 l) (hlen : l.length ≤ 1000000) :
    Calls Try.prog 44 #[.slice (some ⟨b1, 0, none⟩) l.length (l.length + room l.length), .slice (some ⟨b2, 0, none⟩) l.length (l.length + room l.length)] w fun e w' => e = .returned (.bool true) ∧ Drawn0 w w' := by
  have hroom : room l.length ≤ l.length + 1 := by unfold room; split <;> (try split) <;> omega
  have RC := fun W => room_calls l.length hlen W
  obtain ⟨k, hk⟩ := eq_same (spare l) (by rw [spare_length]; omega)
  have EC := fun W h1 h2 => laws_eqIntS.calls k (some ⟨b1, 0, none⟩) (l.length + room l.length) (spare l) (some ⟨b2, 0, none⟩) (l.length + room l.length) (spare l) true W h1 (by rw [spare_length]; omega) h2 (by rw [spare_length]; omega) hk
  rw [spare_length] at EC
  have R1 := s1.readsAll hlen
  have R2 := s2.readsAll hlen
  rw [spare_length] at R1 R2
  obtain ⟨m, hm⟩ : ∃ m, room l.length = m := ⟨_, rfl⟩
  rw [hm] at RC hroom EC R1 R2
  rw [hm]
  have c1 := cut_past (P := Try.prog) 22 3 Try.underlying22 (Option.map_eq_some_iff.1 info3).choose_spec.1 (some ⟨b1, 0, none⟩) l.length (l.length + m) ((l.length : Int) + m) (by omega) (by omega)
  have c2 := cut_past (P := Try.prog) 22 3 Try.underlying22 (Option.map_eq_some_iff.1 info3).choose_spec.1 (some ⟨b2, 0, none⟩) l.length (l.length + m) ((l.length : Int) + m) (by omega) (by omega)
  rw [show ((l.length : Int) + m).toNat = l.length + m by omega] at c1 c2
  have EA := Aside0.mk EC
  have RA1 := Aside0.mk R1
  have RA2 := Aside0.mk R2
  clear EC R1 R2 s1 s2 hm hk
  go_enter Try.func44, Try.ntmps44
  go_wp2_with (go_at_call 64; refine (RC _).mono ?_; rintro e w' ⟨rfl, ⟨nd, rfl⟩⟩)
  go_quiet ((go_at_call 43; (with_reducible refine (EA.out _ (Kd.C_drewN RA1.out _) (Kd.C_drewN RA2.out _)).mono ?_); rintro e w' ⟨rfl, ⟨nd, rfl⟩⟩; (try first | exact ⟨rfl, _, World.drewN_drewN _ _ _⟩ | exact ⟨rfl, _, Eq.trans (World.drewN_drewN _ _ _) (congrArg (World.drewN _) (Nat.add_assoc _ _ _))⟩)))
  go_wp2
  go_ret
  exact ⟨rfl, by repeat (first | exact Drawn0.refl _ | apply Drawn0.step)⟩
theorem heap_at2 (w : World) (o0 o1 : Obj) : ((w.alloc o0).alloc o1).heap[w.heap.size]? = some o0 ∧ ((w.alloc o0).alloc o1).heap[w.heap.size + 1]? = some o1 := by
  refine ⟨?_, ?_⟩
  · show ((w.heap.push o0).push o1)[w.heap.size]? = _
    rw [Array.getElem?_push, if_neg (by simp), Array.getElem?_push, if_pos rfl]
  · show ((w.heap.push o0).push o1)[w.heap.size + 1]? = _
    rw [Array.getElem?_push, if_pos (by simp)]
theorem SpareFig.later {base : Nat} {w w2 : World} {v2 v3 : Value} {l2 l3 : List Int} (h : SpareFig base w v2 v3 l2 l3) (hb : Below w.heap.size w w2) : SpareFig base w2 v2 v3 l2 l3 := by
  obtain ⟨b2, b3, h1, h2, h3, h4, h5⟩ := h.out
  exact ⟨b2, b3, h1, h2, h3, h4.later hb, h5.later hb⟩
theorem SpareFig.low {base base' : Nat} {w : World} {v2 v3 : Value} {l2 l3 : List Int} (h : SpareFig base w v2 v3 l2 l3) (hb : base' ≤ base) : SpareFig base' w v2 v3 l2 l3 := by
  obtain ⟨b2, b3, h1, h2, h3, h4, h5⟩ := h.out
  exact ⟨b2, b3, h1, h2, h3, h4.low hb, h5.low hb⟩
set_option maxHeartbeats 4000000 in
set_option maxRecDepth 100000 in
theorem intactfig_ok (a0 a1 : Int) (base1 base2 : Nat) (v2 v3 u2 u3 : Value) (l2 l3 : List Int) (w : World) (s1 : SpareFig base1 w v2 v3 l2 l3) (s2 : SpareFig base2 w u2 u3 l2 l3) (h2 : l2.length ≤ 1000000) (h3 : l3.length ≤ 1000000) :
    Calls Try.prog 22 #[.agg #[.int .i64 a0, .int .i64 a1, v2, v3], .agg #[.int .i64 a0, .int .i64 a1, u2, u3]] w fun e w' => e = .returned (.bool true) ∧ Below w.heap.size w w' := by
  obtain ⟨b2, b3, rfl, rfl, _, p2, p3⟩ := s1.out
  obtain ⟨d2, d3, rfl, rfl, _, q2, q3⟩ := s2.out
  have C2 := fun W hb => intact_ok base1 base2 b2 d2 l2 W (p2.later hb) (q2.later hb) h2
  have C3 := fun W hb => intact_ok base1 base2 b3 d3 l3 W (p3.later hb) (q3.later hb) h3
  have hu := Try.underlying29
  clear p2 p3 q2 q3 s1 s2
  go_enter Try.func22, Try.ntmps22
  go_wp2_with fail
  refine (C2 _ (below_alloc (below_alloc (Below.refl _ _) _) _)).mono ?_
  rintro e w' ⟨rfl, ⟨nd, rfl⟩⟩
  go_wp2_with fail
  refine (C3 _ (pw_below_drewN (below_alloc (below_alloc (Below.refl _ _) _) _) _)).mono ?_
  rintro e w' ⟨rfl, ⟨nd2, rfl⟩⟩
  go_wp2_with fail
  go_ret
  exact ⟨rfl, by repeat (first | exact Below.refl _ _ | apply below_alloc | apply pw_below_drewN | apply below_drew1)⟩
set_option maxHeartbeats 4000000 in
set_option maxRecDepth 100000 in
theorem intactdesk_ok (a0 a1 d4 : Int) (base1 base2 : Nat) (v2 v3 u2 u3 : Value) (l2 l3 : List Int) (w : World) (s1 : SpareFig base1 w v2 v3 l2 l3) (s2 : SpareFig base2 w u2 u3 l2 l3) (h2 : l2.length ≤ 1000000) (h3 : l3.length ≤ 1000000) :
    Calls Try.prog 11 #[.agg #[.int .i64 a0, .int .i64 a1, v2, v3, .int .i64 d4], .agg #[.int .i64 a0, .int .i64 a1, u2, u3, .int .i64 d4]] w fun e w' => e = .returned (.bool true) ∧ Below w.heap.size w w' := by
  have C2 := fun W hb => intactfig_ok a0 a1 base1 base2 v2 v3 u2 u3 l2 l3 W (s1.later hb) (s2.later hb) h2 h3
  have hu := Try.underlying29
  have hu2 := Try.underlying31
  clear s1 s2
  go_enter Try.func11, Try.ntmps11
  go_wp2_with fail
  refine (C2 _ (below_alloc (below_alloc (Below.refl _ _) _) _)).mono ?_
  rintro e w1 ⟨rfl, hb⟩
  have B0 : w1.heap[w.heap.size]? = _ := (hb.block _ (by simp; try omega)).trans (heap_at2 _ _ _).1
  have B1 : w1.heap[w.heap.size + 1]? = _ := (hb.block _ (by simp; try omega)).trans (heap_at2 _ _ _).2
  have k0 : w1.cell? ⟨w.heap.size, 4, none⟩ = some (.int .i64 d4) := (blk_cell B0 4).trans rfl
  have k1 : w1.cell? ⟨w.heap.size + 1, 4, none⟩ = some (.int .i64 d4) := (blk_cell B1 4).trans rfl
  have HB := Aside0.mk (below_step (below_alloc (below_alloc (Below.refl w.heap.size w) _) _) hb)
  clear B0 B1 hb
  go_wp2_with fail
  go_ret
  exact ⟨rfl, HB.out⟩
set_option maxHeartbeats 4000000 in
set_option maxRecDepth 100000 in
theorem intactpuzzle_ok (a0 a1 d4 : Int) (d5 : Bool) (d6 : Int) (base1 base2 : Nat) (v2 v3 u2 u3 : Value) (l2 l3 : List Int) (w : World) (s1 : SpareFig base1 w v2 v3 l2 l3) (s2 : SpareFig base2 w u2 u3 l2 l3) (h2 : l2.length ≤ 1000000) (h3 : l3.length ≤ 1000000) :
    Calls Try.prog 16 #[.agg #[.int .i64 a0, .int .i64 a1, v2, v3, .int .i64 d4, .bool d5, .int .i64 d6], .agg #[.int .i64 a0, .int .i64 a1, u2, u3, .int .i64 d4, .bool d5, .int .i64 d6]] w fun e w' => e = .returned (.bool true) ∧ Below w.heap.size w w' := by
  have C2 := fun W hb => intactfig_ok a0 a1 base1 base2 v2 v3 u2 u3 l2 l3 W (s1.later hb) (s2.later hb) h2 h3
  have hu := Try.underlying29
  have hu2 := Try.underlying40
  clear s1 s2
  go_enter Try.func16, Try.ntmps16
  go_wp2_with fail
  refine (C2 _ (below_alloc (below_alloc (Below.refl _ _) _) _)).mono ?_
  rintro e w1 ⟨rfl, hb⟩
  have B0 : w1.heap[w.heap.size]? = _ := (hb.block _ (by simp; try omega)).trans (heap_at2 _ _ _).1
  have B1 : w1.heap[w.heap.size + 1]? = _ := (hb.block _ (by simp; try omega)).trans (heap_at2 _ _ _).2
  have k0 : w1.cell? ⟨w.heap.size, 4, none⟩ = some (.int .i64 d4) := (blk_cell B0 4).trans rfl
  have k1 : w1.cell? ⟨w.heap.size + 1, 4, none⟩ = some (.int .i64 d4) := (blk_cell B1 4).trans rfl
  have k2 : w1.cell? ⟨w.heap.size, 5, none⟩ = some (.bool d5) := (blk_cell B0 5).trans rfl
  have k3 : w1.cell? ⟨w.heap.size + 1, 5, none⟩ = some (.bool d5) := (blk_cell B1 5).trans rfl
  have k4 : w1.cell? ⟨w.heap.size, 6, none⟩ = some (.int .i64 d6) := (blk_cell B0 6).trans rfl
  have k5 : w1.cell? ⟨w.heap.size + 1, 6, none⟩ = some (.int .i64 d6) := (blk_cell B1 6).trans rfl
  have HB := Aside0.mk (below_step (below_alloc (below_alloc (Below.refl w.heap.size w) _) _) hb)
  clear B0 B1 hb
  go_wp2_with fail
  go_ret
  exact ⟨rfl, HB.out⟩

theorem blk_cells5 {w : World} {g t : Nat} {c0 c1 c2 c3 c4 : Value} (h : w.heap[g]? = some (.cells #[c0, c1, c2, c3, c4] t (0, 0))) : w.cell? ⟨g, 0, none⟩ = some c0 ∧ w.cell? ⟨g, 1, none⟩ = some c1 ∧ w.cell? ⟨g, 2, none⟩ = some c2 ∧ w.cell? ⟨g, 3, none⟩ = some c3 ∧ w.cell? ⟨g, 4, none⟩ = some c4 :=
  ⟨(blk_cell h 0).trans rfl, (blk_cell h 1).trans rfl, (blk_cell h 2).trans rfl, (blk_cell h 3).trans rfl, (blk_cell h 4).trans rfl⟩
theorem SpareFig.reads {base : Nat} {w : World} {v2 v3 : Value} {l2 l3 : List Int} (h : SpareFig base w v2 v3 l2 l3) (h2 : l2.length ≤ 1000000) (h3 : l3.length ≤ 1000000) :
    ∃ A2 c2 A3 c3, v2 = .slice A2 l2.length c2 ∧ v3 = .slice A3 l3.length c3 ∧ l2.length ≤ c2 ∧ l3.length ≤ c3 ∧ Kd.C (Kd.int .i64) w A2 l2.length l2 ∧ Kd.C (Kd.int .i64) w A3 l3.length l3 := by
  obtain ⟨b2, b3, e2, e3, _, p2, p3⟩ := h.out
  exact ⟨_, _, _, _, e2, e3, by omega, by omega, p2.reads h2, p3.reads h3⟩
theorem blk_later {w w' : World} {g : Nat} {o : Obj} (h : w.heap[g]? = some o) (hb : Below w.heap.size w w') : w'.heap[g]? = some o := (hb.block g (blk_lt h)).trans h
set_option maxHeartbeats 8000000 in
set_option maxRecDepth 100000 in
theorem law_IsDesk (k k' ks : Nat) (b : Bool) (rs : Int) (a0 a1 : Int) (A2 : Option Addr) (c2 : Nat) (l2 : List Int) (A3 : Option Addr) (c3 : Nat) (l3 : List Int) (d4 : Int) (w : World)
    (hr2 : Kd.C (Kd.int .i64) w A2 l2.length l2) (hr3 : Kd.C (Kd.int .i64) w A3 l3.length l3) (hc2 : l2.length ≤ c2) (hc3 : l3.length ≤ c3)
    (hsz : laws_szDesk.f a0 a1 l2 l3 d4 1000000 = some rs)
    (hlen : 0 ≤ rs → l2.length ≤ 1000000 ∧ l3.length ≤ 1000000)
    (hs : 0 ≤ rs → spec_IsDesk.f k a0 a1 l2 l3 d4 = some b) (hi : 0 ≤ rs → impl_IsDesk.f k' a0 a1 l2 l3 d4 = some b) :
    Calls Try.prog 3 #[.agg #[.int .i64 a0, .int .i64 a1, .slice A2 l2.length c2, .slice A3 l3.length c3, .int .i64 d4]] w fun e w' => e = .returned (.bool true) ∧ Below w.heap.size w w' := by
  have SZ := fun W hr2 hr3 => laws_szDesk.calls a0 a1 A2 c2 l2 A3 c3 l3 d4 1000000 rs W hr2 hc2 hr3 hc3 hsz
  have HR2 := Aside0.mk hr2
  have HR3 := Aside0.mk hr3
  have hu := Try.underlying26
  have hu2 := Try.underlying31
  clear hr2 hr3 hsz
  by_cases hneg : rs < 0
  · have hdec : decide (rs < 0) = true := decide_eq_true hneg
    clear hs hi hlen
    go_enter Try.func3, Try.ntmps3
    go_wp2_with fail
    refine (SZ _ (Kd.C_alloc HR2.out _) (Kd.C_alloc HR3.out _)).mono ?_
    rintro e w1 ⟨rfl, hb⟩
    have HB := Aside0.mk (below_step (below_alloc (Below.refl w.heap.size w) _) hb)
    clear hb
    go_wp2_with fail
    go_ret
    exact ⟨rfl, HB.out⟩
  · have hdec : decide (rs < 0) = false := decide_eq_false hneg
    obtain ⟨h2, h3⟩ := hlen (by omega)
    replace hs := hs (by omega)
    replace hi := hi (by omega)
    clear hlen
    have TO := fun W hr2 hr3 => todesk_full a0 a1 A2 c2 l2 A3 c3 l3 d4 W hr2 hr3 h2 h3
    have TB := fun W hr2 hr3 => laws_toDesk.calls a0 a1 A2 c2 l2 A3 c3 l3 d4 true a0 a1 l2 l3 d4 W hr2 hc2 hr3 hc3 (by simp [laws_toDesk.f, laws_toFigure.f, laws_toIntS.f, h2, h3])
    have SP := fun A2 c2 A3 c3 W hr2 hc2 hr3 hc3 => spec_IsDesk.calls k a0 a1 A2 c2 l2 A3 c3 l3 d4 b W hr2 hc2 hr3 hc3 hs
    have IM := fun A2 c2 A3 c3 W hr2 hc2 hr3 hc3 => impl_IsDesk.calls k' a0 a1 A2 c2 l2 A3 c3 l3 d4 b W hr2 hc2 hr3 hc3 hi
    go_enter Try.func3, Try.ntmps3
    go_wp2_with fail
    refine (SZ _ (Kd.C_alloc HR2.out _) (Kd.C_alloc HR3.out _)).mono ?_
    rintro e w1 ⟨rfl, hb⟩
    have BX := Aside0.mk (blk_later (heap_new w _) hb)
    have HB := Aside0.mk (below_step (below_alloc (Below.refl w.heap.size w) _) hb)
    clear hb
    obtain ⟨x0, x1, x2, x3, x4⟩ := blk_cells5 BX.out
    go_wp2_with fail
    -- the reference
    refine (TO _ (Kd.C_below HR2.out HB.out) (Kd.C_below HR3.out HB.out)).mono ?_
    rintro e w2 ⟨v2, v3, rfl, sf, hb⟩
    have BX2 := Aside0.mk (blk_later BX.out hb)
    have HB2 := Aside0.mk (below_step HB.out hb)
    obtain ⟨B2, e2, B3, e3, rfl, rfl, q2, q3, r2, r3⟩ := sf.reads h2 h3
    clear hb sf HB BX x0 x1 x2 x3 x4
    go_wp2_with fail
    refine (SP _ _ _ _ _ r2 q2 r3 q3).mono ?_
    rintro e w3 ⟨rfl, hb⟩
    have BX := Aside0.mk (blk_later BX2.out hb)
    have HB := Aside0.mk (below_step HB2.out hb)
    clear hb BX2 HB2 r2 r3 q2 q3
    obtain ⟨x0, x1, x2, x3, x4⟩ := blk_cells5 BX.out
    go_wp2_with fail
    -- the argument that is handed over
    refine (TO _ (Kd.C_below HR2.out HB.out) (Kd.C_below HR3.out HB.out)).mono ?_
    rintro e w4 ⟨v2, v3, rfl, sf, hb⟩
    have BX2 := Aside0.mk (blk_later BX.out hb)
    have HB2 := Aside0.mk (below_step HB.out hb)
    have SF := Aside0.mk sf
    clear hb sf HB BX x0 x1 x2 x3 x4
    obtain ⟨B2, e2, B3, e3, rfl, rfl, q2, q3, r2, r3⟩ := SF.out.reads h2 h3
    have SZ4 := blk_lt BX2.out
    go_wp2_with fail
    refine (IM _ _ _ _ _ (Kd.C_alloc r2 _) q2 (Kd.C_alloc r3 _) q3).mono ?_
    rintro e w5 ⟨rfl, hb⟩
    have BX := Aside0.mk (blk_later (blk_alloc BX2.out _) hb)
    have BY := Aside0.mk (blk_later (heap_new w4 _) hb)
    have HB := Aside0.mk (below_step (below_alloc HB2.out _) hb)
    have SF5 := Aside0.mk (SF.out.later (below_step (below_alloc (Below.refl _ _) _) hb))
    clear hb BX2 HB2 SF r2 r3 q2 q3
    obtain ⟨x0, x1, x2, x3, x4⟩ := blk_cells5 BX.out
    obtain ⟨y0, y1, y2, y3, y4⟩ := blk_cells5 BY.out
    go_wp2_with fail
    have INT := fun base1 base2 u2 u3 W s1 s2 => intactdesk_ok a0 a1 d4 base1 base2 (.slice B2 l2.length e2) (.slice B3 l3.length e3) u2 u3 l2 l3 W s1 s2 h2 h3
    go_region_held3 (fun W => W.cell? ⟨w.heap.size, 0, none⟩ = some (.int .i64 a0) ∧ W.cell? ⟨w.heap.size, 1, none⟩ = some (.int .i64 a1) ∧ W.cell? ⟨w.heap.size, 2, none⟩ = some (.slice A2 l2.length c2) ∧ W.cell? ⟨w.heap.size, 3, none⟩ = some (.slice A3 l3.length c3) ∧ W.cell? ⟨w.heap.size, 4, none⟩ = some (.int .i64 d4) ∧ W.cell? ⟨w4.heap.size, 0, none⟩ = some (.int .i64 a0) ∧ W.cell? ⟨w4.heap.size, 1, none⟩ = some (.int .i64 a1) ∧ W.cell? ⟨w4.heap.size, 2, none⟩ = some (.slice B2 l2.length e2) ∧ W.cell? ⟨w4.heap.size, 3, none⟩ = some (.slice B3 l3.length e3) ∧ W.cell? ⟨w4.heap.size, 4, none⟩ = some (.int .i64 d4))
      (first
        | (go_split_ands; exact ⟨pw_cell_below hb2 (pw_cell_below hb x0), pw_cell_below hb2 (pw_cell_below hb x1), pw_cell_below hb2 (pw_cell_below hb x2), pw_cell_below hb2 (pw_cell_below hb x3), pw_cell_below hb2 (pw_cell_below hb x4), pw_cell_below hb2 (pw_cell_below hb y0), pw_cell_below hb2 (pw_cell_below hb y1), pw_cell_below hb2 (pw_cell_below hb y2), pw_cell_below hb2 (pw_cell_below hb y3), pw_cell_below hb2 (pw_cell_below hb y4)⟩)
        | (go_split_ands; exact ⟨pw_cell_below hb x0, pw_cell_below hb x1, pw_cell_below hb x2, pw_cell_below hb x3, pw_cell_below hb x4, pw_cell_below hb y0, pw_cell_below hb y1, pw_cell_below hb y2, pw_cell_below hb y3, pw_cell_below hb y4⟩)
        | go_keep)
      (first
        | (go_at_call 9; go_loud (refine (TO _ (Kd.C_below HR2.out (below_drew1 HB.out)) (Kd.C_below HR3.out (below_drew1 HB.out))).mono ?_); rintro e w6 ⟨u2, u3, rfl, sf, hb⟩)
        | (go_at_call 11; go_loud (refine (INT _ _ _ _ _ (SF5.out.later (below_step (below_drew1 (Below.refl _ _)) hb)) sf).mono ?_); rintro e w7 ⟨rfl, hb2⟩))
    have HB7 := Aside0.mk (below_step (below_step (below_drew1 HB.out) hb) hb2)
    have BX7 := Aside0.mk (blk_later (blk_later (w := w5.drew) BX.out hb) hb2)
    clear BX BY HB SF5 sf hb hb2 x0 x1 x2 x3 x4 y0 y1 y2 y3 y4
    obtain ⟨x0, x1, x2, x3, x4⟩ := blk_cells5 BX7.out
    go_wp2_with fail
    refine (TB _ (Kd.C_below HR2.out HB7.out) (Kd.C_below HR3.out HB7.out)).mono ?_
    rintro e w8 ⟨v2, v3, rfl, o2, o3, hb⟩
    obtain ⟨D2, g2, rfl, q2, r2⟩ := Kd.R_reads o2
    obtain ⟨D3, g3, rfl, q3, r3⟩ := Kd.R_reads o3
    have HB8 := Aside0.mk (below_step HB7.out hb)
    clear hb HB7 BX7 o2 o3 x0 x1 x2 x3 x4
    go_wp2_with fail
    refine (IM _ _ _ _ _ r2 q2 r3 q3).mono ?_
    rintro e w9 ⟨rfl, hb⟩
    have HB9 := Aside0.mk (below_step HB8.out hb)
    clear hb HB8 q2 q3 r2 r3
    go_wp2_with fail
    go_ret
    exact ⟨rfl, HB9.out⟩

/-! Figures: both programs ask the same. -/
def Rise (l : List Int) : Prop := ∀ j : Nat, 1 ≤ j → j < l.length → rd l ((j : Int) - 1) < rd l j
def Within (l : List Int) (lo hi : Int) : Prop := ∀ x ∈ l, lo ≤ x ∧ x ≤ hi
theorem w64 (x : Int) (h1 : -9223372036854775808 ≤ x) (h2 : x ≤ 9223372036854775807) : wrap64 x = x := by unfold wrap64; omega

theorem rd_mem {l : List Int} {j : Nat} (h : j < l.length) : rd l (j : Int) ∈ l := by
  have e : rd l (j : Int) = l[j] := by simp [rd, h]
  rw [e]; exact List.getElem_mem h
theorem mem_rd {l : List Int} {x : Int} (h : x ∈ l) : ∃ j : Nat, j < l.length ∧ rd l (j : Int) = x := by
  obtain ⟨j, hj, rfl⟩ := List.getElem_of_mem h
  exact ⟨j, hj, by simp [rd, hj]⟩

theorem impl_within_f (a lo hi : Int) : impl_within.f a lo hi = some (decide (lo ≤ a) && decide (a ≤ hi)) := by
  unfold impl_within.f
  by_cases h : lo ≤ a <;> simp [h]
theorem spec_l1In_f (a lo hi : Int) : spec_l1In.f a lo hi = some (decide (lo ≤ a) && decide (a ≤ hi)) := by
  unfold spec_l1In.f
  by_cases h : lo ≤ a
  · rw [if_pos h]; simp [h]
  · rw [if_neg (by omega)]; simp [h]

theorem impl_rising_l (l : List Int) (hn : l.length ≤ 4611686018427387904) : ∀ (d i k : Nat), 1 ≤ i → i + d = max l.length i → d < k → ∃ b, impl_isRising.l0 k l (i : Int) = some b ∧ (b = true ↔ ∀ j : Nat, i ≤ j → j < l.length → rd l ((j : Int) - 1) < rd l j) := by
  intro d
  induction d with
  | zero =>
    intro i k h1 hi hk
    obtain ⟨k, rfl⟩ : ∃ m, k = m + 1 := ⟨k - 1, by omega⟩
    refine ⟨true, ?_, ?_⟩
    · simp only [impl_isRising.l0]; rw [if_neg (by omega)]
    · simp; intro j hj hl; omega
  | succ d ih =>
    intro i k h1 hi hk
    obtain ⟨k, rfl⟩ : ∃ m, k = m + 1 := ⟨k - 1, by omega⟩
    have hlt : (i : Int) < (l.length : Int) := by omega
    simp only [impl_isRising.l0]
    rw [if_pos hlt, if_pos (by omega), w64 _ (by omega) (by omega), if_pos (by omega), if_pos (by omega)]
    by_cases hc : rd l (i : Int) ≤ rd l ((i : Int) - 1)
    · rw [if_pos hc]
      refine ⟨false, rfl, ?_⟩
      simp
      exact ⟨i, Nat.le_refl _, by omega, by omega⟩
    · rw [if_neg hc, w64 _ (by omega) (by omega)]
      obtain ⟨b, hb, hiff⟩ := ih (i + 1) k (by omega) (by omega) (by omega)
      refine ⟨b, by exact_mod_cast hb, hiff.trans ⟨fun h j hj hl => ?_, fun h j hj hl => h j (by omega) hl⟩⟩
      by_cases e : j = i
      · subst e; omega
      · exact h j (by omega) hl
theorem impl_rising (l : List Int) (hn : l.length ≤ 4611686018427387904) (k : Nat) (hk : l.length + 1 ≤ k) : ∃ b, impl_isRising.f k l = some b ∧ (b = true ↔ Rise l) := by
  obtain ⟨b, hb, hiff⟩ := impl_rising_l l hn (max l.length 1 - 1) 1 k (by omega) (by omega) (by omega)
  exact ⟨b, hb, hiff⟩
theorem impl_areWithin_f (l : List Int) (lo hi : Int) : ∃ b, impl_areWithin.f l lo hi = some b ∧ (b = true ↔ Within l lo hi) := by
  refine ⟨_, rfl, ?_⟩
  unfold Within awP
  simp only [Bool.not_eq_true', List.any_eq_false]
  constructor
  · intro h x hx
    have := h x hx
    simpa using this
  · intro h x hx
    have := h x hx
    simp [this.1, this.2]

theorem spec_l1All_l (l : List Int) (lo hi : Int) (hn : l.length ≤ 4611686018427387904) : ∀ (d i k : Nat), i + d = l.length → d < k → ∃ b, spec_l1All.l0 k lo hi l (l.length : Int) (i : Int) = some b ∧ (b = true ↔ ∀ j : Nat, i ≤ j → j < l.length → lo ≤ rd l j ∧ rd l j ≤ hi) := by
  intro d
  induction d with
  | zero =>
    intro i k hi hk
    obtain ⟨k, rfl⟩ : ∃ m, k = m + 1 := ⟨k - 1, by omega⟩
    refine ⟨true, ?_, ?_⟩
    · simp only [spec_l1All.l0]; rw [if_neg (by omega)]
    · simp; intro j hj hl; omega
  | succ d ih =>
    intro i k hi2 hk
    obtain ⟨k, rfl⟩ : ∃ m, k = m + 1 := ⟨k - 1, by omega⟩
    simp only [spec_l1All.l0]
    rw [if_pos (by omega), if_pos (by omega), if_pos (by omega), spec_l1In_f]
    simp only [Option.bind_some]
    by_cases hc : lo ≤ rd l (i : Int) ∧ rd l (i : Int) ≤ hi
    · rw [if_pos (by simp [hc.1, hc.2]), w64 _ (by omega) (by omega)]
      obtain ⟨b, hb, hiff⟩ := ih (i + 1) k (by omega) (by omega)
      refine ⟨b, by exact_mod_cast hb, hiff.trans ⟨fun h j hj hl => ?_, fun h j hj hl => h j (by omega) hl⟩⟩
      by_cases e : j = i
      · subst e; exact hc
      · exact h j (by omega) hl
    · rw [if_neg (by simpa using hc)]
      refine ⟨false, rfl, ?_⟩
      simp
      exact ⟨i, Nat.le_refl _, by omega, by omega⟩
theorem spec_l1All_f (l : List Int) (lo hi : Int) (hn : l.length ≤ 4611686018427387904) (k : Nat) (hk : l.length + 1 ≤ k) : ∃ b, spec_l1All.f k l lo hi = some b ∧ (b = true ↔ Within l lo hi) := by
  obtain ⟨b, hb, hiff⟩ := spec_l1All_l l lo hi hn l.length 0 k (by omega) (by omega)
  refine ⟨b, hb, hiff.trans ⟨fun h x hx => ?_, fun h j _ hl => h _ (rd_mem hl)⟩⟩
  obtain ⟨j, hj, rfl⟩ := mem_rd hx
  exact h j (by omega) hj
theorem spec_fiRises_l (l : List Int) (hn : l.length ≤ 4611686018427387904) : ∀ (d i k : Nat), 1 ≤ i → i + d = max l.length i → d < k → ∃ b, spec_fiRises.l0 k l (i : Int) = some b ∧ (b = true ↔ ∀ j : Nat, i ≤ j → j < l.length → rd l ((j : Int) - 1) < rd l j) := by
  intro d
  induction d with
  | zero =>
    intro i k h1 hi hk
    obtain ⟨k, rfl⟩ : ∃ m, k = m + 1 := ⟨k - 1, by omega⟩
    refine ⟨true, ?_, ?_⟩
    · simp only [spec_fiRises.l0]; rw [if_neg (by omega)]
    · simp; intro j hj hl; omega
  | succ d ih =>
    intro i k h1 hi hk
    obtain ⟨k, rfl⟩ : ∃ m, k = m + 1 := ⟨k - 1, by omega⟩
    have hlt : (i : Int) < (l.length : Int) := by omega
    simp only [spec_fiRises.l0]
    rw [if_pos hlt, w64 ((i : Int) - 1) (by omega) (by omega), if_pos (by omega), if_pos (by omega), if_pos (by omega)]
    by_cases hc : rd l ((i : Int) - 1) ≥ rd l (i : Int)
    · rw [if_pos hc]
      refine ⟨false, rfl, ?_⟩
      simp
      exact ⟨i, Nat.le_refl _, by omega, by omega⟩
    · rw [if_neg hc, w64 _ (by omega) (by omega)]
      obtain ⟨b, hb, hiff⟩ := ih (i + 1) k (by omega) (by omega) (by omega)
      refine ⟨b, by exact_mod_cast hb, hiff.trans ⟨fun h j hj hl => ?_, fun h j hj hl => h j (by omega) hl⟩⟩
      by_cases e : j = i
      · subst e; omega
      · exact h j (by omega) hl
theorem rise_index {l : List Int} (h : Rise l) {lo : Int} (h0 : ∀ x ∈ l, lo ≤ x) : ∀ j : Nat, j < l.length → lo + j ≤ rd l (j : Int) := by
  intro j
  induction j with
  | zero => intro hl; have := h0 _ (rd_mem hl); simpa using this
  | succ j ih =>
    intro hl
    have h1 := ih (by omega)
    have h2 := h (j + 1) (by omega) hl
    rw [show ((j + 1 : Nat) : Int) - 1 = (j : Int) by omega] at h2
    omega
theorem rise_length {l : List Int} {most : Int} (h : Rise l) (hw : Within l 0 most) (hm : 0 ≤ most) : (l.length : Int) ≤ most + 1 := by
  by_cases hz : l.length = 0
  · omega
  · have h1 := rise_index h (lo := 0) (fun x hx => (hw x hx).1) (l.length - 1) (by omega)
    have h2 := (hw _ (rd_mem (j := l.length - 1) (by omega))).2
    omega
theorem spec_fiRises_f (l : List Int) (most : Int) (h0 : 0 ≤ most) (hm : most ≤ 1000) (hn : l.length ≤ 4611686018427387904) (k : Nat) (hk : l.length + 3 ≤ k) : ∃ b, spec_fiRises.f k l most = some b ∧ (b = true ↔ Rise l ∧ Within l 0 most) := by
  unfold spec_fiRises.f
  rw [w64 _ (by omega) (by omega)]
  obtain ⟨k, rfl⟩ : ∃ m, k = m + 1 := ⟨k - 1, by omega⟩
  by_cases hc : (l.length : Int) > most + 1
  · rw [if_pos hc]
    refine ⟨false, by simp [spec_fiRises.j0], ?_⟩
    simp
    intro h1 h2
    have := rise_length h1 h2 h0
    omega
  · rw [if_neg hc]
    obtain ⟨b, hb, hiff⟩ := spec_l1All_f l 0 most hn (k + 1) (by omega)
    rw [hb]
    simp only [Option.bind_some, spec_fiRises.j0]
    cases b with
    | false =>
      refine ⟨false, by simp, ?_⟩
      have : ¬ Within l 0 most := fun z => by simpa using hiff.2 z
      simp
      exact fun _ => this
    | true =>
      rw [if_neg (by simp)]
      obtain ⟨b, hb, hiff2⟩ := spec_fiRises_l l hn (max l.length 1 - 1) 1 k (by omega) (by omega) (by omega)
      exact ⟨b, hb, hiff2.trans ⟨fun h => ⟨h, hiff.1 rfl⟩, fun h => h.1⟩⟩

/-- what a figure is -/
structure FigOK (w h : Int) (l2 l3 : List Int) : Prop where
  w1 : 1 ≤ w
  w4 : w ≤ 4
  h1 : 1 ≤ h
  h4 : h ≤ 4
  r2 : Rise l2
  r3 : Rise l3
  in2 : Within l2 0 (w * (h + 1) - 1)
  in3 : Within l3 0 (h * (w + 1) - 1)
theorem mul_bounds {w h : Int} (h1 : 1 ≤ w) (h2 : w ≤ 4) (h3 : 1 ≤ h) (h4 : h ≤ 4) : 2 ≤ w * (h + 1) ∧ w * (h + 1) ≤ 20 ∧ 2 ≤ h * (w + 1) ∧ h * (w + 1) ≤ 20 ∧ (w + 1) * h = h * (w + 1) ∧ 1 ≤ w * h ∧ w * h ≤ 16 := by
  have hw : w = 1 ∨ w = 2 ∨ w = 3 ∨ w = 4 := by omega
  have hh : h = 1 ∨ h = 2 ∨ h = 3 ∨ h = 4 := by omega
  rcases hw with rfl | rfl | rfl | rfl <;> rcases hh with rfl | rfl | rfl | rfl <;> decide
theorem grid_mul {w h : Int} (h1 : 1 ≤ w) (h2 : w ≤ 4) (h3 : 1 ≤ h) (h4 : h ≤ 4) : wrap64 (w * wrap64 (h + 1)) = w * (h + 1) ∧ wrap64 (h * wrap64 (w + 1)) = h * (w + 1) ∧ wrap64 (wrap64 (w + 1) * h) = h * (w + 1) ∧ wrap64 (w * h) = w * h := by
  obtain ⟨a, b, c, d, e, f, g⟩ := mul_bounds h1 h2 h3 h4
  rw [w64 (h + 1) (by omega) (by omega), w64 (w + 1) (by omega) (by omega), e]
  exact ⟨w64 _ (by omega) (by omega), w64 _ (by omega) (by omega), w64 _ (by omega) (by omega), w64 _ (by omega) (by omega)⟩
theorem impl_isGrid_f (w h : Int) : impl_isGrid.f w h = some (decide (1 ≤ w ∧ w ≤ 4 ∧ 1 ≤ h ∧ h ≤ 4)) := by
  unfold impl_isGrid.f
  rw [impl_within_f]
  simp only [Option.bind_some]
  by_cases hc : 1 ≤ w ∧ w ≤ 4
  · rw [if_pos (by simp [hc.1, hc.2]), impl_within_f]
    simp [hc.1, hc.2]
  · rw [if_neg (by simpa using hc)]
    simp
    intro a b
    exact absurd ⟨a, b⟩ hc
theorem spec_fiGrid_f (w h : Int) : spec_fiGrid.f w h = some (decide (1 ≤ w ∧ w ≤ 4 ∧ 1 ≤ h ∧ h ≤ 4)) := by
  unfold spec_fiGrid.f
  rw [spec_l1In_f]
  simp only [Option.bind_some]
  by_cases hc : 1 ≤ w ∧ w ≤ 4
  · rw [if_pos (by simp [hc.1, hc.2]), spec_l1In_f]
    simp [hc.1, hc.2]
  · rw [if_neg (by simpa using hc)]
    simp
    intro a b
    exact absurd ⟨a, b⟩ hc
theorem impl_IsFigure_f (w h : Int) (l2 l3 : List Int) (h2 : l2.length ≤ 4611686018427387904) (h3 : l3.length ≤ 4611686018427387904) (k : Nat) (hk : l2.length + l3.length + 5 ≤ k) : ∃ b, impl_IsFigure.f k w h l2 l3 = some b ∧ (b = true ↔ FigOK w h l2 l3) := by
  unfold impl_IsFigure.f impl_Figure_grid.f impl_grid_levels.f impl_grid_uprights.f
  rw [impl_isGrid_f]
  simp only [Option.bind_some]
  by_cases hc : 1 ≤ w ∧ w ≤ 4 ∧ 1 ≤ h ∧ h ≤ 4
  · rw [if_pos (by simpa using hc)]
    obtain ⟨e1, e2, _⟩ := grid_mul hc.1 hc.2.1 hc.2.2.1 hc.2.2.2
    obtain ⟨m1, m2, m3, m4, _⟩ := mul_bounds hc.1 hc.2.1 hc.2.2.1 hc.2.2.2
    rw [e1, e2, w64 (w * (h + 1) - 1) (by omega) (by omega), w64 (h * (w + 1) - 1) (by omega) (by omega)]
    obtain ⟨b2, q2, i2⟩ := impl_rising l2 h2 k (by omega)
    obtain ⟨b3, q3, i3⟩ := impl_rising l3 h3 k (by omega)
    obtain ⟨b4, q4, i4⟩ := impl_areWithin_f l2 0 (w * (h + 1) - 1)
    obtain ⟨b5, q5, i5⟩ := impl_areWithin_f l3 0 (h * (w + 1) - 1)
    rw [q2, q3, q4, q5]
    simp only [Option.bind_some]
    refine ⟨b2 && (b3 && (b4 && b5)), by cases b2 <;> cases b3 <;> cases b4 <;> rfl, ?_⟩
    simp only [Bool.and_eq_true, i2, i3, i4, i5]
    exact ⟨fun ⟨a, b, c, d⟩ => ⟨hc.1, hc.2.1, hc.2.2.1, hc.2.2.2, a, b, c, d⟩, fun x => ⟨x.r2, x.r3, x.in2, x.in3⟩⟩
  · rw [if_neg (by simpa using hc)]
    refine ⟨false, rfl, ?_⟩
    simp
    exact fun x => hc ⟨x.w1, x.w4, x.h1, x.h4⟩
theorem spec_fiGood_f (w h : Int) (l2 l3 : List Int) (h2 : l2.length ≤ 4611686018427387904) (h3 : l3.length ≤ 4611686018427387904) (k : Nat) (hk : l2.length + l3.length + 5 ≤ k) : ∃ b, spec_fiGood.f k w h l2 l3 = some b ∧ (b = true ↔ FigOK w h l2 l3) := by
  unfold spec_fiGood.f
  rw [spec_fiGrid_f]
  simp only [Option.bind_some]
  by_cases hc : 1 ≤ w ∧ w ≤ 4 ∧ 1 ≤ h ∧ h ≤ 4
  · rw [if_pos (by simpa using hc)]
    obtain ⟨e1, e2, e3, _⟩ := grid_mul hc.1 hc.2.1 hc.2.2.1 hc.2.2.2
    obtain ⟨m1, m2, m3, m4, _⟩ := mul_bounds hc.1 hc.2.1 hc.2.2.1 hc.2.2.2
    rw [e1, e3, w64 (w * (h + 1) - 1) (by omega) (by omega), w64 (h * (w + 1) - 1) (by omega) (by omega)]
    obtain ⟨b2, q2, i2⟩ := spec_fiRises_f l2 (w * (h + 1) - 1) (by omega) (by omega) h2 k (by omega)
    obtain ⟨b3, q3, i3⟩ := spec_fiRises_f l3 (h * (w + 1) - 1) (by omega) (by omega) h3 k (by omega)
    rw [q2, q3]
    simp only [Option.bind_some]
    refine ⟨b2 && b3, by cases b2 <;> cases b3 <;> rfl, ?_⟩
    simp only [Bool.and_eq_true, i2, i3]
    exact ⟨fun ⟨⟨a, c⟩, b, d⟩ => ⟨hc.1, hc.2.1, hc.2.2.1, hc.2.2.2, a, b, c, d⟩, fun x => ⟨⟨x.r2, x.in2⟩, x.r3, x.in3⟩⟩
  · rw [if_neg (by simpa using hc)]
    refine ⟨false, rfl, ?_⟩
    simp
    exact fun x => hc ⟨x.w1, x.w4, x.h1, x.h4⟩
/-- both tell the same -/
theorem fig_same (w h : Int) (l2 l3 : List Int) (h2 : l2.length ≤ 4611686018427387904) (h3 : l3.length ≤ 4611686018427387904) (k : Nat) (hk : l2.length + l3.length + 5 ≤ k) : ∃ b, impl_IsFigure.f k w h l2 l3 = some b ∧ spec_fiGood.f k w h l2 l3 = some b ∧ (b = true ↔ FigOK w h l2 l3) := by
  obtain ⟨b, q, i⟩ := impl_IsFigure_f w h l2 l3 h2 h3 k hk
  obtain ⟨c, r, j⟩ := spec_fiGood_f w h l2 l3 h2 h3 k hk
  have : b = c := by rw [Bool.eq_iff_iff, i, j]
  subst this
  exact ⟨b, q, r, i⟩

/-! The law's measure of its arguments: a list each is taken off what is left. -/
theorem sz_int (l : List Int) (a : Int) (h0 : 0 ≤ a) (ha : a ≤ 1000000) (hl : l.length ≤ maxLen) : ∃ r, laws_szIntS.f l a = some r ∧ (0 ≤ r → r = a - l.length) ∧ r ≤ 1000000 := by
  unfold laws_szIntS.f
  unfold maxLen at hl
  rw [w64 _ (by omega) (by omega)]
  by_cases hc : a - (l.length : Int) < 0
  · rw [if_pos hc]; exact ⟨_, rfl, by omega, by omega⟩
  · rw [if_neg hc]; exact ⟨_, rfl, fun _ => rfl, by omega⟩
theorem sz_fig (w h : Int) (l2 l3 : List Int) (a : Int) (h0 : 0 ≤ a) (ha : a ≤ 1000000) (h2 : l2.length ≤ maxLen) (h3 : l3.length ≤ maxLen) : ∃ r, laws_szFigure.f w h l2 l3 a = some r ∧ (0 ≤ r → r = a - l2.length - l3.length) ∧ r ≤ 1000000 := by
  unfold laws_szFigure.f
  obtain ⟨r, hr, i, j⟩ := sz_int l2 a h0 ha h2
  rw [hr]
  simp only [Option.bind_some]
  by_cases hc : r < 0
  · rw [if_pos hc]; exact ⟨_, rfl, by omega, by omega⟩
  · rw [if_neg hc]
    obtain ⟨s, hs, i2, j2⟩ := sz_int l3 r (by omega) j h3
    rw [hs]
    simp only [Option.bind_some]
    by_cases hd : s < 0
    · rw [if_pos hd]; exact ⟨_, rfl, by omega, by omega⟩
    · rw [if_neg hd]; exact ⟨_, rfl, fun _ => by rw [i2 (by omega), i (by omega)], by omega⟩

theorem sz_desk (w h : Int) (l2 l3 : List Int) (d4 a : Int) (h0 : 0 ≤ a) (ha : a ≤ 1000000) (h2 : l2.length ≤ maxLen) (h3 : l3.length ≤ maxLen) : ∃ r, laws_szDesk.f w h l2 l3 d4 a = some r ∧ (0 ≤ r → r = a - l2.length - l3.length) ∧ r ≤ 1000000 := by
  unfold laws_szDesk.f
  obtain ⟨r, hr, i, j⟩ := sz_fig w h l2 l3 a h0 ha h2 h3
  rw [hr]
  simp only [Option.bind_some]
  by_cases hc : r < 0
  · rw [if_pos hc]; exact ⟨_, rfl, by omega, by omega⟩
  · rw [if_neg hc]; exact ⟨_, rfl, fun _ => i (by omega), by omega⟩

theorem desk_same (w h : Int) (l2 l3 : List Int) (d4 : Int) (h2 : l2.length ≤ 4611686018427387904) (h3 : l3.length ≤ 4611686018427387904) (k : Nat) (hk : l2.length + l3.length + 5 ≤ k) : ∃ b, impl_IsDesk.f k w h l2 l3 d4 = some b ∧ spec_IsDesk.f k w h l2 l3 d4 = some b ∧ (b = true ↔ FigOK w h l2 l3 ∧ 0 ≤ d4 ∧ d4 ≤ 999) := by
  obtain ⟨b, q, r, i⟩ := fig_same w h l2 l3 h2 h3 k hk
  unfold impl_IsDesk.f spec_IsDesk.f spec_coGood.f spec_coLeft.f
  rw [q, r]
  simp only [Option.bind_some]
  rw [impl_within_f, spec_l1In_f]
  simp only [Option.bind_some]
  refine ⟨b && (decide (0 ≤ d4) && decide (d4 ≤ 999)), ?_, ?_, ?_⟩
  · cases b <;> rfl
  · cases b <;> rfl
  · simp [i]

section
variable {H : Type} {enc : TypeId × Value → H} {P : Program} {W : World} {base : Nat} {held : Bool}
theorem open_row {t e : TypeId} {fuel : Nat} {v : Value} {x : DataW H × List MemPlace} (ht : P.underlying t = some (.slice e)) (he : P.underlying e = some (.int .i64)) (hc : P.cellsOf e = 1)
    (h : DataW.trod enc P W base (fun _ => true) held fuel t [v] = some x) :
    ∃ (A : Option Addr) (c : Nat) (l : List Int), v = .slice A l.length c ∧ l.length ≤ c ∧ l.length ≤ maxLen ∧ Kd.C (Kd.int .i64) W A l.length l ∧ ∀ n ∈ l, (Lit.int .i64 n).wf = true := by
  rcases open_ints ht he hc h with ⟨hcs, _⟩ | ⟨a, len, cap, zs, hcs, _, hl, hm, hz, _, hcell, hwf⟩
  · simp only [List.cons.injEq, and_true] at hcs
    subst hcs
    exact ⟨none, 0, [], rfl, Nat.le_refl _, Nat.zero_le _, Kd.C_nil _ _, fun n hn => by cases hn⟩
  · simp only [List.cons.injEq, and_true] at hcs
    subst hcs
    have hz2 : zs.length = cap := by simpa using hz
    have hlen : (zs.take len).length = len := by rw [List.length_take]; omega
    refine ⟨some a, cap, zs.take len, by rw [hlen], by omega, by omega, ?_, fun n hn => hwf n (List.mem_of_mem_take hn)⟩
    refine Kd.C_of_reads (d := (0 : Int)) (h1 := fun _ => rfl) ⟨rfl, by unfold maxLen at hm; omega, fun _ => ⟨a, rfl, fun j hj => ?_⟩⟩
    rw [hcell j (by omega)]
    rw [List.getD_eq_getElem?_getD, List.getD_eq_getElem?_getD, List.getElem?_take_of_lt (by omega)]
theorem open_num {t : TypeId} {fuel : Nat} {v : Value} {x : DataW H × List MemPlace} (ht : P.underlying t = some (.int .i64)) (h : DataW.trod enc P W base (fun _ => true) held fuel t [v] = some x) :
    ∃ n : Int, v = .int .i64 n ∧ (Lit.int .i64 n).wf = true := by
  obtain ⟨n, hv, _, hw⟩ := DataW.trod_int ht h
  simp only [List.cons.injEq, and_true] at hv
  exact ⟨n, hv, hw⟩
end
theorem cells1 : Try.prog.cellsOf 3 = 1 := by kernel_rfl
theorem cells2 : Try.prog.cellsOf 22 = 1 := by kernel_rfl
theorem cells3 : Try.prog.cellsOf 24 = 4 := by kernel_rfl
/-- a figure that came in, as cells -/
structure FigIn (W : World) (cs : List Value) (a0 a1 : Int) (A2 : Option Addr) (c2 : Nat) (l2 : List Int) (A3 : Option Addr) (c3 : Nat) (l3 : List Int) : Prop where
  cells : cs = [.int .i64 a0, .int .i64 a1, .slice A2 l2.length c2, .slice A3 l3.length c3]
  w0 : (Lit.int .i64 a0).wf = true
  w1 : (Lit.int .i64 a1).wf = true
  hc2 : l2.length ≤ c2
  hm2 : l2.length ≤ maxLen
  hr2 : Kd.C (Kd.int .i64) W A2 l2.length l2
  w2 : ∀ n ∈ l2, (Lit.int .i64 n).wf = true
  hc3 : l3.length ≤ c3
  hm3 : l3.length ≤ maxLen
  hr3 : Kd.C (Kd.int .i64) W A3 l3.length l3
  w3 : ∀ n ∈ l3, (Lit.int .i64 n).wf = true
set_option maxRecDepth 100000 in
theorem open_fig {H : Type} {enc : TypeId × Value → H} {W : World} {base : Nat} {held : Bool} {fuel : Nat} {cs : List Value} {x : DataW H × List MemPlace} (h : DataW.trod enc Try.prog W base (fun _ => true) held fuel 24 cs = some x) :
    ∃ a0 a1 A2 c2 l2 A3 c3 l3, FigIn W cs a0 a1 A2 c2 l2 A3 c3 l3 := by
  obtain ⟨y0, y1, y2, y3, n, _, hl, h0, h1, h2, h3⟩ := trod_struct4 Try.underlying24 h
  rw [cells3] at hl
  match cs, hl with
  | [k0, k1, k2, k3], _ =>
    simp only [cells1, cells2, List.drop, List.take] at h0 h1 h2 h3
    obtain ⟨a0, rfl, w0⟩ := open_num Try.underlying3 h0
    obtain ⟨a1, rfl, w1⟩ := open_num Try.underlying3 h1
    obtain ⟨A2, c2, l2, rfl, hc2, hm2, hr2, w2⟩ := open_row Try.underlying22 Try.underlying3 cells1 h2
    obtain ⟨A3, c3, l3, rfl, hc3, hm3, hr3, w3⟩ := open_row Try.underlying22 Try.underlying3 cells1 h3
    exact ⟨a0, a1, A2, c2, l2, A3, c3, l3, rfl, w0, w1, hc2, hm2, hr2, w2, hc3, hm3, hr3, w3⟩

theorem cells4 : Try.prog.cellsOf 26 = 5 := by kernel_rfl
set_option maxRecDepth 100000 in
theorem open_desk {H : Type} {enc : TypeId × Value → H} {W : World} {base : Nat} {held : Bool} {r : Reach} {b0 : Nat} {v : Value} {d : DataW H} {p : List MemPlace} (hv : Value.okWide Try.prog W r b0 26 v) (h : DataW.Trod enc Try.prog W base (fun _ => true) held 26 v d p) :
    ∃ a0 a1 A2 c2 l2 A3 c3 l3 d4, v = .agg #[.int .i64 a0, .int .i64 a1, .slice A2 l2.length c2, .slice A3 l3.length c3, .int .i64 d4] ∧ (Lit.int .i64 d4).wf = true ∧ FigIn W [.int .i64 a0, .int .i64 a1, .slice A2 l2.length c2, .slice A3 l3.length c3] a0 a1 A2 c2 l2 A3 c3 l3 := by
  obtain ⟨cs, rfl, hsz⟩ := okWide_struct Try.underlying26 hv
  rw [cells4] at hsz
  obtain ⟨fuel, hf⟩ := h
  obtain ⟨y0, y1, n, _, _, h0, h1⟩ := trod_struct2 Try.underlying26 hf
  match cs, hsz with
  | ⟨[k0, k1, k2, k3, k4]⟩, _ =>
    simp only [cells1, cells3, Value.cells, List.drop, List.take] at h0 h1
    obtain ⟨d4, rfl, w4⟩ := open_num Try.underlying3 h1
    obtain ⟨a0, a1, A2, c2, l2, A3, c3, l3, F⟩ := open_fig h0
    have := F.cells
    simp only [List.cons.injEq, and_true] at this
    obtain ⟨rfl, rfl, rfl, rfl⟩ := this
    exact ⟨a0, a1, A2, c2, l2, A3, c3, l3, d4, rfl, w4, F⟩

theorem IsDesk_call {W : World} {a0 a1 : Int} {A2 : Option Addr} {c2 : Nat} {l2 : List Int} {A3 : Option Addr} {c3 : Nat} {l3 : List Int} (d4 : Int) (F : FigIn W [.int .i64 a0, .int .i64 a1, .slice A2 l2.length c2, .slice A3 l3.length c3] a0 a1 A2 c2 l2 A3 c3 l3) :
    Calls Try.prog 3 #[.agg #[.int .i64 a0, .int .i64 a1, .slice A2 l2.length c2, .slice A3 l3.length c3, .int .i64 d4]] W fun e W' => e = .returned (.bool true) ∧ Below W.heap.size W W' := by
  obtain ⟨rs, hsz, hi, _⟩ := sz_desk a0 a1 l2 l3 d4 1000000 (by omega) (by omega) F.hm2 F.hm3
  have hlen : 0 ≤ rs → l2.length ≤ 1000000 ∧ l3.length ≤ 1000000 := fun h => by have := hi h; omega
  by_cases hneg : 0 ≤ rs
  · obtain ⟨h2, h3⟩ := hlen hneg
    obtain ⟨b, q, r, _⟩ := desk_same a0 a1 l2 l3 d4 (by omega) (by omega) (l2.length + l3.length + 5) (Nat.le_refl _)
    exact law_IsDesk _ _ 0 b rs a0 a1 A2 c2 l2 A3 c3 l3 d4 W F.hr2 F.hr3 F.hc2 F.hc3 hsz hlen (fun _ => r) (fun _ => q)
  · exact law_IsDesk 0 0 0 false rs a0 a1 A2 c2 l2 A3 c3 l3 d4 W F.hr2 F.hr3 F.hc2 F.hc3 hsz hlen (fun h => absurd h hneg) (fun h => absurd h hneg)
theorem own : ownKnob Try.prog.godebug = none := by kernel_rfl
theorem laidOut : laidOutB Try.prog = true := by kernel_rfl
set_option maxRecDepth 100000 in
theorem lifted (os : Os) (started : os.Started) (H : Type) (enc : TypeId × Value → H) :
    ReturnsInHanded {} Try.checked os 3 .any (Rows.fnExactIsDeskSpec.pre6 enc Try.prog Try.f3 Rows.fnExactIsDeskRow.domain false) (Rows.fnExactIsDeskSpec.post enc Try.prog Try.f3 false true false false) := by
  refine returnsInHanded_of_change_sized (C := Try.checked) own started (by kernel_rfl) Try.func3
    (ChangeSpec.witness6 (enc := enc) (C := Try.checked) false ⟨#[], #[.agg #[.int .i64 0, .int .i64 0, .slice none 0 0, .slice none 0 0, .int .i64 0]], []⟩ 8 (by kernel_rfl) (by kernel_rfl) (by kernel_rfl) (by kernel_rfl)) ?_
  intro W base args ds gs before hval0 hW hcnd hsz0 _
  have hval : ∀ (j : Nat) t v, Try.f3.params[j]? = some t → args[j]? = some v → Value.okWide Try.prog W .any base t v := hval0
  have hW' := hW
  obtain ⟨p, q, hA0, hV, rfl, hfz, hnd⟩ := hW
  have hA : DataW.TrodAll enc Try.prog W 0 (fun _ => true) true Try.f3.params.toList args.toList ds p := hA0
  rw [Try.params3] at hA hval
  obtain ⟨v0, vs0, d0, ds0, p0, q0, hargs, rfl, rfl, h0, r0⟩ := trodAll_cons hA
  obtain ⟨rfl, rfl, rfl⟩ := trodAll_nil r0
  obtain rfl : args = #[v0] := by cases args; simp_all
  obtain ⟨rfl, rfl⟩ := trodVars_none hV
  have k0 := h0
  have lt0 : ∀ x ∈ p0, x.block < W.heap.size := by obtain ⟨m, hm⟩ := k0; exact DataW.trod_lt m _ _ _ hm
  obtain ⟨a0, a1, A2, c2, l2, A3, c3, l3, d4, rfl, w4, F⟩ := open_desk (hval 0 26 v0 rfl rfl) h0
  clear hA0 hval0 hsz0
  refine (IsDesk_call d4 F).mono fun e W' ⟨he, bel⟩ => ?_
  subst he
  exact ⟨_, rfl, _, _, _, [], _, [], hW', trodAll_mk1 (shut_bool Try.underlying4 _), (trodAll_cons_mk (Below.trod laidOut (by kernel_rfl) (of_decide_eq_true (by kernel_rfl)) k0 bel lt0) trodAll_mk0), rfl, bel.frame _, fun h => by cases h⟩
theorem over : Rows.fnExactIsDeskRow.holds Try.pinned (OpenSpec.ofChange Rows.fnExactIsDeskSpec) :=
  OpenClaim.holds_of_wide 3 Try.f3 rfl rfl rfl rfl rfl rfl rfl ⟨rfl, rfl, rfl, rfl, rfl⟩ rfl rfl rfl rfl rfl (by kernel_rfl) Try.func3 (by kernel_rfl)
    (of_decide_eq_true (by kernel_rfl)) (by unfold Func.isWrapper; first | (rw [if_pos (by decide +kernel)]; kernel_rfl) | (rw [if_neg (by decide +kernel)]; exact ⟨rfl, rfl⟩))
    (fun os started H enc _ => lifted os started H enc)
theorem proved : Rows.FnExactIsDeskSaid := over
#print axioms proved

end Go.Proofs.Ytkmebbadjejheaa.A
namespace Go.Proofs.Ytkmebbadjejheaa
/-- The row, under a short name, for the claim. -/
theorem fnExactIsDesk_holds : Rows.FnExactIsDeskSaid := A.proved
#print axioms fnExactIsDesk_holds
end Go.Proofs.Ytkmebbadjejheaa
