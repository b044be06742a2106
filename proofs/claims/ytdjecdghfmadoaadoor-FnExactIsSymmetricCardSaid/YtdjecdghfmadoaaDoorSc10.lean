import Derived.Test.YtdjecdghfmadoaaDoorSd
import Derived.Test.YtdjecdghfmadoaaDoorSc1
import Derived.Test.YtdjecdghfmadoaaDoorSc2
import Derived.Test.YtdjecdghfmadoaaDoorSc9
namespace Go.Proofs.YtdjecdghfmadoaaDoor.S
open Go.RowKit Go.Proofs.YtdjecdghfmadoaaDoorW.PrintWords Go.Proofs.YtdjecdghfmadoaaDoorW.PrintLast Go.Proofs.YtdjecdghfmadoaaDoorW.PrintMore
attribute [local go_sem] max2_int min2_int max_two min_two max_three min_three max_four min_four
set_option linter.unusedVariables false
set_option linter.unusedSimpArgs false

/-! ### impl_keeping: function 43 -/
/-- a figure's value -/
structure FgV where
 w : Int
 h : Int
 A2 : Option Addr
 c2 : Nat
 l2 : List Int
 A3 : Option Addr
 c3 : Nat
 l3 : List Int
def fgC (q : FgV) : List Value := [.int .i64 q.w, .int .i64 q.h, .slice q.A2 q.l2.length q.c2, .slice q.A3 q.l3.length q.c3]
def fgP (q : FgV) : Int × Int × List Int × List Int := (q.w, q.h, q.l2, q.l3)
/-- rows of such values, whatever their lists -/
def kfg : Kd FgV where
 sz := 4
 E := []
 K := fun _ x cs => cs = fgC x
 M := fun _ _ _ x cs => cs = fgC x
 K_len := fun h => by rw [h]; rfl
 K_one := fun h u hu => by
  rw [h] at hu
  simp only [fgC, List.mem_cons, List.not_mem_nil, or_false] at hu
  rcases hu with rfl | rfl | rfl | rfl <;> rfl
 K_below := fun _ h => h
 K_of_M := fun h => h
 M_mono := fun _ h => h
 M_bound := fun h => h
 M_move := fun _ h => h
 M_lower := fun _ h => h
/-- a list of numbers: it came in, or it is the call's own -/
def LR (w0 : World) (b : Nat) (ok : Nat → Prop) (W : World) (A : Option Addr) (c : Nat) (l : List Int) : Prop := (Kd.C (Kd.int .i64) w0 A l.length l ∧ l.length ≤ c) ∨ Kd.R (Kd.int .i64) 3 W b ok (.slice A l.length c) l
section
variable {w0 W W' : World} {b : Nat} {ok : Nat → Prop} {A : Option Addr} {c : Nat} {l : List Int}
theorem LR.reads (h : LR w0 b ok W A c l) (HB : Below w0.heap.size w0 W) : Kd.C (Kd.int .i64) W A l.length l ∧ l.length ≤ c := by
 rcases h with h | h
 ·exact ⟨Kd.C_below h.1 HB, h.2⟩
 ·exact ⟨(Kd.R_reads' h).2.2, (Kd.R_reads' h).2.1⟩
theorem LR.below (h : LR w0 b ok W A c l) (hb : Below W.heap.size W W') : LR w0 b ok W' A c l := h.imp id (fun h => Kd.R_below h hb)
theorem LR.grown {row : Option Nat} (h : LR w0 b ok W A c l) (hg : W.grownBy W' row) (hr : ∀ g, row = some g → ∃ cs, W.heap[g]? = some (.cells cs 26 (0, 0))) : LR w0 b ok W' A c l := by
 refine h.imp id (fun h => ?_)
 cases row with
 | none => exact Kd.R_grown h hg (fun _ _ => by simp)
 | some g =>
  obtain ⟨cs, hc⟩ := hr g rfl
  exact Kd.R_mono (Kd.R_grown (Kd.R_types h hc (by decide)) hg (fun k hk e => hk.2 (Option.some.inj e))) (fun _ hk => hk.1)
theorem LR.set {g j : Nat} {cs : Array Value} {u : Value} (h : LR w0 b ok W A c l) (hg : W.heap[g]? = some (.cells cs 26 (0, 0))) : LR w0 b ok (W.setCell ⟨g, j, none⟩ u) A c l :=
 h.imp id (fun h => Kd.R_set h hg (by decide) j u)
end
structure FgOk (w0 : World) (b : Nat) (ok : Nat → Prop) (W : World) (q : FgV) : Prop where
 r2 : LR w0 b ok W q.A2 q.c2 q.l2
 r3 : LR w0 b ok W q.A3 q.c3 q.l3
section
variable {w0 W W' : World} {b : Nat} {ok : Nat → Prop} {q : FgV}
theorem FgOk.below (h : FgOk w0 b ok W q) (hb : Below W.heap.size W W') : FgOk w0 b ok W' q := ⟨h.r2.below hb, h.r3.below hb⟩
theorem FgOk.grown {row : Option Nat} (h : FgOk w0 b ok W q) (hg : W.grownBy W' row) (hr : ∀ g, row = some g → ∃ cs, W.heap[g]? = some (.cells cs 26 (0, 0))) : FgOk w0 b ok W' q := ⟨h.r2.grown hg hr, h.r3.grown hg hr⟩
theorem FgOk.set {g j : Nat} {cs : Array Value} {u : Value} (h : FgOk w0 b ok W q) (hg : W.heap[g]? = some (.cells cs 26 (0, 0))) : FgOk w0 b ok (W.setCell ⟨g, j, none⟩ u) q := ⟨h.r2.set hg, h.r3.set hg⟩
end
theorem e8_info : (Tryd.prog.info? 26).map (fun i => (i.zero, i.size, i.bytes)) = some (some (.agg #[.int .i64 0, .int .i64 0, .slice none 0 0, .slice none 0 0]), 4, 64) := by kernel_rfl
theorem e8_succ {k n : Nat} {x : Int × Int × List Int × List Int} {L : List (Int × Int × List Int × List Int)} (h : e8 k (n + 1) x = some L) : ∃ m1 m2 m3 m4 t1 t2 t3 t4 r, impl_mirrored.f k x.1 x.2.1 x.2.2.1 x.2.2.2 = some (m1, m2, m3, m4) ∧ impl_turned.f k x.1 x.2.1 x.2.2.1 x.2.2.2 = some (t1, t2, t3, t4) ∧ e8 k n (t1, t2, t3, t4) = some r ∧ L = x :: (m1, m2, m3, m4) :: r := by
 simp only [e8] at h
 obtain ⟨⟨m1, m2, m3, m4⟩, h1, h⟩ := Option.bind_eq_some_iff.mp h
 obtain ⟨⟨t1, t2, t3, t4⟩, h2, h⟩ := Option.bind_eq_some_iff.mp h
 obtain ⟨r, h3, h⟩ := Option.bind_eq_some_iff.mp h
 exact ⟨m1, m2, m3, m4, t1, t2, t3, t4, r, h1, h2, h3, (Option.some.inj h).symm⟩
theorem e8_pair (W : World) (b : Nat) (okp : Nat → Prop) (y m : FgV) : Reps (kfg.M W b okp) kfg.sz [y, m] (fgC y ++ fgC m) := Reps.snoc (p := m) (c := fgC m) (Reps.snoc (p := y) (c := fgC y) (Reps.none _ _) rfl rfl) rfl rfl
theorem e8_row {W : World} {h0 B : Nat} {v : Value} {xs : List FgV} (h : Kd.R kfg 26 W h0 (fun k => k ≠ B) v xs) : ∀ g, v.ownBlock = some g → ∃ cs, W.heap[g]? = some (.cells cs 26 (0, 0)) := by
 intro g hg
 obtain ⟨_, _, _, q, hq, cs, hc⟩ := (Kd.R_bound h).1 g hg
 have e : q = 26 := by simpa [kfg] using hq
 exact ⟨cs, e ▸ hc⟩
section
variable {P : Program} {ops : Array Oper} {Q : Exit → Act → World → Prop}
theorem goesV_ {oi : Oper} {N : Option Tmp} {a : Act} {w : World} {K : Act → World → Prop} {f : FuncId} {fn : Func} {o : Operand} {ar : Array Operand} {ts : Array TypeId} (hf : P.funcs[f]? = some fn) (hname : (fn.name == "runtime.NumGoroutine") = false) (hb : fn.body.isSome = true) (args : Array Value)
  (hw : Region.wanted oi (yielded ops a.tmps) = true) (hN : oi.dst = N) (hop : oi.op = .call { callee := .value o, args := ar, argTypes := ts }) (hov : a.eval o = .func (.func f) #[] #[]) (hargs : ar.map a.eval = args)
  (h : Calls P f args w fun e w' => ∃ v, e = .returned v ∧ K (a.put N v) w') : if Region.wanted oi (yielded ops a.tmps) = true then Oper.wp P oi a w K Q else K (a.put N undef) w := by
 refine call_ f args hw hN ?_ h
 have he := enters_ hf hname hb args w
 unfold execOp
 simp [hop, resolve, Deferred.ofValue, invoke, hov, hargs, he]
theorem goesVL_ {rest : List Oper} {oi : Oper} {a : Act} {w : World} (N : Option Tmp) (hd : oi.dst = N) (hg : oi.guard = none) {f : FuncId} {fn : Func} {o : Operand} {ar : Array Operand} {ts : Array TypeId} (hf : P.funcs[f]? = some fn) (hname : (fn.name == "runtime.NumGoroutine") = false) (hb : fn.body.isSome = true) (args : Array Value)
  (hop : oi.op = .call { callee := .value o, args := ar, argTypes := ts }) (hov : a.eval o = .func (.func f) #[] #[]) (hargs : ar.map a.eval = args)
  (h : Calls P f args w fun e w' => ∃ v, e = .returned v ∧ wpList P ops Q rest (a.put N v) w') : wpList P ops Q (oi :: rest) a w := by
 refine wpList_plain hg fun K hK => ?_
 have he := enters_ hf hname hb args w
 have hrun : (execOp a.eval oi).run P w = .ok (.enter f args) w := by
  unfold execOp
  simp [hop, resolve, Deferred.ofValue, invoke, hov, hargs, he]
 unfold Oper.wp
 rw [hrun, Oper.upon_enter, hd]
 refine h.mono fun e w'' hh => ?_
 obtain ⟨v, rfl, hk⟩ := hh
 exact hK _ _ hk
end
theorem e8_sets {w0 W : World} {b0 b1 B : Nat} {ok : Nat → Prop} {a b c d : Value} (hx : W.heap[B]? = some (.cells #[a, b, c, d] 26 (0, 0))) (u0 u1 u2 u3 : Value) :
  ((((W.setCell ⟨B, 0, none⟩ u0).setCell ⟨B, 1, none⟩ u1).setCell ⟨B, 2, none⟩ u2).setCell ⟨B, 3, none⟩ u3).heap[B]? = some (.cells #[u0, u1, u2, u3] 26 (0, 0)) ∧
  (∀ q, FgOk w0 b0 ok W q → FgOk w0 b0 ok ((((W.setCell ⟨B, 0, none⟩ u0).setCell ⟨B, 1, none⟩ u1).setCell ⟨B, 2, none⟩ u2).setCell ⟨B, 3, none⟩ u3) q) ∧
  (∀ v xs, Kd.R kfg 26 W b1 (fun k => k ≠ B) v xs → Kd.R kfg 26 ((((W.setCell ⟨B, 0, none⟩ u0).setCell ⟨B, 1, none⟩ u1).setCell ⟨B, 2, none⟩ u2).setCell ⟨B, 3, none⟩ u3) b1 (fun k => k ≠ B) v xs) := by
 have h1 := blk_put (cs' := #[u0, b, c, d]) hx 0 u0 rfl
 have h2 := blk_put (cs' := #[u0, u1, c, d]) h1 1 u1 rfl
 have h3 := blk_put (cs' := #[u0, u1, u2, d]) h2 2 u2 rfl
 have h4 := blk_put (cs' := #[u0, u1, u2, u3]) h3 3 u3 rfl
 exact ⟨h4, fun q h => (((h.set hx).set h1).set h2).set h3, fun v xs h => Kd.R_far (p := ⟨B, 3, none⟩) (Kd.R_far (p := ⟨B, 2, none⟩) (Kd.R_far (p := ⟨B, 1, none⟩) (Kd.R_far (p := ⟨B, 0, none⟩) h (fun _ hk => hk) _) (fun _ hk => hk) _) (fun _ hk => hk) _) (fun _ hk => hk) _⟩
set_option maxHeartbeats 8000000 in
set_option maxRecDepth 100000 in
theorem eight_calls (k : Nat) (x : FgV) (L : List (Int × Int × List Int × List Int)) (w0 w : World) (hw0 : Below w0.heap.size w0 w) (hT : TzTab w) (h2 : Kd.C (Kd.int .i64) w0 x.A2 x.l2.length x.l2) (h2c : x.l2.length ≤ x.c2) (h3 : Kd.C (Kd.int .i64) w0 x.A3 x.l3.length x.l3) (h3c : x.l3.length ≤ x.c3) (h : e8 k 4 (fgP x) = some L) :
  Calls Tryd.prog 74 #[.agg #[.int .i64 x.w, .int .i64 x.h, .slice x.A2 x.l2.length x.c2, .slice x.A3 x.l3.length x.c3], .func (.func 75) #[] #[], .func (.func 76) #[] #[]] w fun e w' =>
   ∃ v qs, e = .returned v ∧ qs.map fgP = L ∧ qs.length = 8 ∧ Kd.R kfg 26 w' w.heap.size (fun _ => True) v qs ∧ (∀ q ∈ qs, FgOk w0 w.heap.size (fun _ => True) w' q) ∧ Below w.heap.size w w' := by
 have HT := Aside0.mk hT
 have HW0 := Aside0.mk hw0
 have HX : Aside0 (FgOk w0 w.heap.size (fun _ => True) w x) := ⟨⟨.inl ⟨h2, h2c⟩, .inl ⟨h3, h3c⟩⟩⟩
 have HE := Aside0.mk h
 clear hT hw0 h2 h2c h3 h3c h
 have hu1 := Tryd.underlying26
 go_enter Tryd.func74, Tryd.ntmps74
 go_wp2_with (first
  | ((with_reducible refine gate_dst (N := 3) rfl ?_); refine zbx 3 #[.int .i64 x.w, .int .i64 x.h, .slice x.A2 x.l2.length x.c2, .slice x.A3 x.l3.length x.c3] 26 ?_; intro B hg w1 hbox hb; have HBX := Aside0.mk hbox; have HBB := Aside0.mk hb; have HB0 : Aside0 (w.heap.size ≤ B) := ⟨Nat.le_of_eq hg.symm⟩; clear hg hbox hb)
  | ((with_reducible refine gate_dst (N := 8) rfl ?_); refine Kd.R_lit kfg _ 26 ?hg (N := 8) ?hd (xs := ([] : List FgV)) (inner := []) (ok := fun k => k ≠ B) (okp := fun k => k ≠ B) ?hr ?hp (fun _ hk => hk) (Nat.ne_of_gt (blk_lt HBX.out)) (Below.refl _ _) (Nat.le_refl _) (by simp) ?_; (case hd => rfl); (case hg => rfl); (case hr => first | (go_simp; done) | (go_simp; rfl)); (case hp => exact Reps.none _ _); intro v0 w2 ho hb hg_ hnew_; have HL0 := Aside0.mk (Kd.R_lower ho (below_size HBB.out)); have HBX2 := Aside0.mk (blk_below HBX.out hb); have HBB2 := Aside0.mk (HBB.out.trans (hb.mono (below_size HBB.out))); have HX2 := Aside0.mk ((HX.out.below HBB.out).below hb); clear HX HBX HBB hg_ hnew_ ho hb))
 go_loopg [7, 9] 4 (fun gg v7 v9 w' => ∃ (i : Nat) (qs : List FgV) (y : FgV) (L' : List (Int × Int × List Int × List Int)), i ≤ 4 ∧ 4 - i ≤ gg ∧ v9 = .int .i64 i ∧ Aside0 (Kd.R kfg 26 w' w.heap.size (fun k => k ≠ B) v7 qs) ∧ Aside0 (w'.heap[B]? = some (.cells #[.int .i64 y.w, .int .i64 y.h, .slice y.A2 y.l2.length y.c2, .slice y.A3 y.l3.length y.c3] 26 (0, 0))) ∧ Aside0 (∀ q ∈ qs, FgOk w0 w.heap.size (fun _ => True) w' q) ∧ Aside0 (FgOk w0 w.heap.size (fun _ => True) w' y) ∧ Aside0 (e8 k (4 - i) (fgP y) = some L') ∧ Aside0 (qs.map fgP ++ L' = L ∧ qs.length = 2 * i) ∧ Aside0 (Below w.heap.size w w'))
 case atStart => exact ⟨0, [], x, L, Nat.zero_le _, by omega, rfl, HL0, HBX2, ⟨by simp⟩, HX2, HE, ⟨⟨rfl, rfl⟩⟩, HBB2⟩
 case round =>
  clear HL0 HBX2 HBB2 HX2 HE
  obtain ⟨i, qs, y, L', hi, hg, rfl, HL, HX, HQ, HY, HE, HEL, HB⟩ := hrel
  by_cases hlt : i < 4
  ·have hltz : (i : Int) < 4 := by omega
   have hlt' := Aside0.mk hlt
   obtain ⟨m1, m2, m3, m4, t1, t2, t3, t4, r, hm, ht, hr, hL⟩ := e8_succ (n := 3 - i) ((show 4 - i = (3 - i) + 1 by omega) ▸ HE.out)
   have HEm : Aside0 (impl_mirrored.f k y.w y.h y.l2 y.l3 = some (m1, m2, m3, m4)) := ⟨hm⟩
   have HEt : Aside0 (impl_turned.f k y.w y.h y.l2 y.l3 = some (t1, t2, t3, t4)) := ⟨ht⟩
   have HEr := Aside0.mk hr
   subst hL
   clear HE hm ht hr hlt
   have HLn := Aside0.mk (show (qs.length + 2) * 64 ≤ 140737488355328 by have := HEL.out.2; omega)
   have HXd := Aside0.mk (blk_below HX.out (below_drew1 (Below.refl wr.heap.size wr)))
   go_wp2
   refine start_ (n := 8) (S := fun w' => w'.cell? ⟨B, 0, none⟩ = some (.int .i64 y.w) ∧ w'.cell? ⟨B, 1, none⟩ = some (.int .i64 y.h) ∧ w'.cell? ⟨B, 2, none⟩ = some (.slice y.A2 y.l2.length y.c2) ∧ w'.cell? ⟨B, 3, none⟩ = some (.slice y.A3 y.l3.length y.c3)) (ds := []) (fl 8 0) (by kernel_rfl) rfl rfl ⟨(blk_cell HXd.out 0).trans rfl, (blk_cell HXd.out 1).trans rfl, (blk_cell HXd.out 2).trans rfl, (blk_cell HXd.out 3).trans rfl⟩ (fun hHeld => ?_)
   refine zpu 0 (some 11) (fl 8 1) ?_
   refine zpu 2 (some 13) (fl 8 5) ?_
   refine ztk 1 (some 12) (fl 8 7) hHeld ?_
   refine ztk 3 (some 14) (fl 8 15) hHeld ?_
   refine zone 4 (some 15) (fl 8 31) (fun K hK => ?_)
   refine goesV_ Tryd.func76 (by kernel_rfl) rfl #[.agg #[.int .i64 y.w, .int .i64 y.h, .slice y.A2 y.l2.length y.c2, .slice y.A3 y.l3.length y.c3]] (by rfl) rfl rfl (by rfl) (by simp only [List.map_toArray, List.map_cons, List.map_nil]; rfl) ?_
   with_reducible refine (impl_mirrored.calls k y.w y.h y.A2 y.c2 y.l2 y.A3 y.c3 y.l3 _ _ _ _ _ (tz_below HT.out (below_drew1 HB.out)) (Kd.C_below (HY.out.r2.reads (below_step HW0.out HB.out)).1 (below_drew1 (Below.refl _ _))) (HY.out.r2.reads (below_step HW0.out HB.out)).2 (Kd.C_below (HY.out.r3.reads (below_step HW0.out HB.out)).1 (below_drew1 (Below.refl _ _))) (HY.out.r3.reads (below_step HW0.out HB.out)).2 HEm.out).mono ?_
   rintro e w3 ⟨v2, v3, rfl, ho2, ho3, hb3⟩
   refine ⟨_, rfl, ?_⟩
   obtain ⟨A2, c2, rfl⟩ := Kd.R_slice ho2
   obtain ⟨A3, c3, rfl⟩ := Kd.R_slice ho3
   have hb3' := below_step (below_drew1 (Below.refl wr.heap.size wr)) hb3
   have HX3 := Aside0.mk (blk_below HX.out hb3')
   have HB3 := Aside0.mk (below_step HB.out hb3')
   have HL3 := Aside0.mk (Kd.R_below HL.out hb3')
   have HM := Aside0.mk (show FgOk w0 w.heap.size (fun _ => True) w3 ⟨m1, m2, A2, c2, m3, A3, c3, m4⟩ from ⟨.inr (Kd.R_mono (Kd.R_lower ho2 (below_size (below_drew1 HB.out))) (fun _ _ => trivial)), .inr (Kd.R_mono (Kd.R_lower ho3 (below_size (below_drew1 HB.out))) (fun _ _ => trivial))⟩)
   have HQ3 := Aside0.mk (fun q hq => (HQ.out q hq).below hb3')
   have HY3 := Aside0.mk (HY.out.below hb3')
   clear ho2 ho3 hb3 hb3' HX HL HQ HY HB
   refine hK.out _ _ ⟨(blk_cell HX3.out 0).trans rfl, (blk_cell HX3.out 1).trans rfl, (blk_cell HX3.out 2).trans rfl, (blk_cell HX3.out 3).trans rfl⟩ (fun hHeld => ?_)
   clear hK K
   refine znm ?_
   refine zone 5 (some 16) (fl 8 63) (fun K hK => ?_)
   refine Kd.R_lit_step kfg _ 26 (by rfl) (N := 16) ?hd (xs := [y, ⟨m1, m2, A2, c2, m3, A3, c3, m4⟩]) (inner := fgC y ++ fgC ⟨m1, m2, A2, c2, m3, A3, c3, m4⟩) (ok := fun _ => True) (okp := fun _ => True) ?hr ?hp (fun _ hk => hk) trivial (Below.refl _ _) (Nat.le_refl _) (by simp) ?_
   case hd => rfl
   case hr => first | (go_simp; done) | (go_simp; rfl)
   case hp => exact e8_pair _ _ _ _ _
   intro vb w4 ho4 hb4 hg4 hn4
   obtain ⟨A4, c4, rfl⟩ := Kd.R_slice ho4
   have HX4 := Aside0.mk (blk_below HX3.out hb4)
   have HB4 := Aside0.mk (below_step HB3.out hb4)
   have HL4 := Aside0.mk (Kd.R_below HL3.out hb4)
   have HM4 := Aside0.mk (HM.out.below hb4)
   have HQ4 := Aside0.mk (fun q hq => (HQ3.out q hq).below hb4)
   have HY4 := Aside0.mk (HY3.out.below hb4)
   have HN := Aside0.mk (Kd.R_reads' ho4).2.2
   clear ho4 hb4 hg4 hn4 HX3 HB3 HL3 HM HQ3 HY3
   refine hK.out _ _ ⟨(blk_cell HX4.out 0).trans rfl, (blk_cell HX4.out 1).trans rfl, (blk_cell HX4.out 2).trans rfl, (blk_cell HX4.out 3).trans rfl⟩ (fun hHeld => ?_)
   clear hK K
   refine znm ?_
   refine zone 6 (some 17) (fl 8 127) (fun K hK => ?_)
   refine Kd.R_append_rows_step kfg (Rr := fun q cs => cs = fgC q) (w0 := w) w.heap.size (by rfl) (.tmp 11) (.tmp 16) 88 26 (.agg #[.int .i64 0, .int .i64 0, .slice none 0 0, .slice none 0 0]) 64 rfl Tryd.underlying88 e8_info rfl (by decide) (by omega) u7 qs [y, ⟨m1, m2, A2, c2, m3, A3, c3, m4⟩] A4 2 c4 (fun k => k ≠ B) (fun _ => False) rfl rfl HL4.out HN.out (fun _ _ h => h) (fun _ hk => hk.elim) ?aF HB4.out (below_size HB4.out) ?aL ?_
   case aF => exact fun k hk e => by have := blk_lt HX4.out; omega
   case aL => have := HLn.out; omega
   intro v5 w5 ho5 hb5 hg5 hat5
   have nB : some B ≠ u7.ownBlock := fun e => HL4.out.1 B e.symm rfl
   have HX5 := Aside0.mk (blk_grown HX4.out hg5 nB)
   have hrow := e8_row HL4.out
   have HM5 := Aside0.mk (HM4.out.grown hg5 hrow)
   have HQ5 := Aside0.mk (fun q hq => (HQ4.out q hq).grown hg5 hrow)
   have HY5 := Aside0.mk (HY4.out.grown hg5 hrow)
   have HL5 := Aside0.mk ho5
   have HB5 := Aside0.mk hb5
   clear ho5 hb5 hg5 hat5 hrow nB HX4 HB4 HL4 HM4 HQ4 HY4 HN
   refine hK.out _ _ ⟨(blk_cell HX5.out 0).trans rfl, (blk_cell HX5.out 1).trans rfl, (blk_cell HX5.out 2).trans rfl, (blk_cell HX5.out 3).trans rfl⟩ (fun hHeld => ?_)
   clear hK K
   refine znm ?_
   refine zpu 7 (some 7) (fl 8 255) ?_
   refine done_ (by kernel_rfl) ?_

   obtain ⟨q0, q1, q2, q3, f0, f1, f2, f3⟩ := blk4 HX5
   go_wp2_with ((with_reducible refine gate_dst (N := 20) rfl ?_); refine goesVL_ (some 20) rfl rfl Tryd.func75 (by kernel_rfl) rfl #[.agg #[.int .i64 y.w, .int .i64 y.h, .slice y.A2 y.l2.length y.c2, .slice y.A3 y.l3.length y.c3]] rfl rfl (by simp only [List.map_toArray, List.map_cons, List.map_nil]; rfl) ?_; (with_reducible refine (impl_turned.calls k y.w y.h y.A2 y.c2 y.l2 y.A3 y.c3 y.l3 _ _ _ _ _ (tz_below HT.out HB5.out) (HY5.out.r2.reads (below_step HW0.out HB5.out)).1 (HY5.out.r2.reads (below_step HW0.out HB5.out)).2 (HY5.out.r3.reads (below_step HW0.out HB5.out)).1 (HY5.out.r3.reads (below_step HW0.out HB5.out)).2 HEt.out).mono ?_); rintro e w6 ⟨v2, v3, rfl, ho2, ho3, hb3⟩; refine ⟨_, rfl, ?_⟩; obtain ⟨A2', c2', rfl⟩ := Kd.R_slice ho2; obtain ⟨A3', c3', rfl⟩ := Kd.R_slice ho3; have HX6 := Aside0.mk (blk_below HX5.out hb3); have HB6 := Aside0.mk (below_step HB5.out hb3); have HL6 := Aside0.mk (Kd.R_below HL5.out hb3); have HQ6 := Aside0.mk (fun q hq => (HQ5.out q hq).below hb3); have HM6 := Aside0.mk (HM5.out.below hb3); have HY6 := Aside0.mk (HY5.out.below hb3); have HT6 := Aside0.mk (show FgOk w0 w.heap.size (fun _ => True) w6 ⟨t1, t2, A2', c2', t3, A3', c3', t4⟩ from ⟨.inr (Kd.R_mono (Kd.R_lower ho2 (below_size HB5.out)) (fun _ _ => trivial)), .inr (Kd.R_mono (Kd.R_lower ho3 (below_size HB5.out)) (fun _ _ => trivial))⟩); clear q0 q1 q2 q3 f0 f1 f2 f3; obtain ⟨q0, q1, q2, q3, f0, f1, f2, f3⟩ := blk4 HX6; clear ho2 ho3 hb3)
   have hS := e8_sets (w0 := w0) (b0 := w.heap.size) (b1 := w.heap.size) (ok := fun _ => True) HX6.out (.int .i64 t1) (.int .i64 t2) (.slice A2' t3.length c2') (.slice A3' t4.length c3')
   have HLT := hlt'.out
   go_roundg (4 - (i + 1))
   case measure => omega
   case rel =>
    refine ⟨i + 1, qs ++ [y, ⟨m1, m2, A2, c2, m3, A3, c3, m4⟩], ⟨t1, t2, A2', c2', t3, A3', c3', t4⟩, r, HLT, by omega, by go_num, ⟨hS.2.2 _ _ HL6.out⟩, ⟨hS.1⟩, ⟨fun q hq => ?_⟩, ⟨hS.2.1 _ HT6.out⟩, ⟨(show 4 - (i + 1) = 3 - i by omega) ▸ HEr.out⟩, ⟨?_, ?_⟩, ⟨(((HB6.out.setCell HB0.out _).setCell HB0.out _).setCell HB0.out _).setCell HB0.out _⟩⟩
    ·simp only [List.mem_append, List.mem_cons, List.not_mem_nil, or_false] at hq
     rcases hq with hq | rfl | rfl
     ·exact hS.2.1 _ (HQ6.out q hq)
     ·exact hS.2.1 _ HY6.out
     ·exact hS.2.1 _ HM6.out
    ·rw [← HEL.out.1]; simp [fgP]
    ·have := HEL.out.2; simp; omega
  ·have hltz : ¬ (i : Int) < 4 := by omega
   obtain rfl : i = 4 := by omega
   go_wp2
   go_ret
   obtain rfl : [] = L' := by have := HE.out; simpa [e8] using this
   exact ⟨u7, rfl, qs, by simpa using HEL.out.1, HEL.out.2, Kd.R_mono HL.out (fun _ _ => trivial), HQ.out, HB.out⟩
theorem kpL_cons {k j : Nat} {x q : Int × Int × List Int × List Int} {r : List (Int × Int × List Int × List Int)} {L : List Int} (h : kpL k x j (q :: r) = some L) : ∃ c l, impl_compareFigures.f k q.1 q.2.1 q.2.2.1 q.2.2.2 x.1 x.2.1 x.2.2.1 x.2.2.2 = some c ∧ kpL k x (j + 1) r = some l ∧ L = if c = 0 then (j : Int) :: l else l := by
 simp only [kpL] at h
 obtain ⟨c, h1, h⟩ := Option.bind_eq_some_iff.mp h
 obtain ⟨l, h2, h⟩ := Option.bind_eq_some_iff.mp h
 exact ⟨c, l, h1, h2, (Option.some.inj h).symm⟩
theorem kp_info3 : (Tryd.prog.info? 3).map (fun i => (i.zero, i.size, i.bytes)) = some (some (.int .i64 0), 1, 8) := by kernel_rfl
theorem LR.apart {w0 W : World} {b : Nat} {A : Option Addr} {c : Nat} {l : List Int} {v : Value} (h : LR w0 b (fun _ => True) W A c l) (hv : ∀ g, v.ownBlock = some g → g < b) : LR w0 b (fun k => some k ≠ v.ownBlock) W A c l :=
 h.imp id (fun h => Kd.R_mono (Kd.R_bound h) (fun k hk e => by have := hv k e.symm; have := hk.2.1; omega))
theorem FgOk.apart {w0 W : World} {b : Nat} {q : FgV} {v : Value} (h : FgOk w0 b (fun _ => True) W q) (hv : ∀ g, v.ownBlock = some g → g < b) : FgOk w0 b (fun k => some k ≠ v.ownBlock) W q := ⟨h.r2.apart hv, h.r3.apart hv⟩
/-- a number was added to the list v: the rows lie apart from what came of it -/
theorem LR.added {w0 W W' : World} {b : Nat} {A : Option Addr} {c : Nat} {l : List Int} {v v' : Value} (h : LR w0 b (fun k => some k ≠ v.ownBlock) W A c l) (hg : W.grownBy W' v.ownBlock) (hat : v'.ownBlock = v.ownBlock ∨ ∃ g, v'.ownBlock = some g ∧ W.heap.size ≤ g) : LR w0 b (fun k => some k ≠ v'.ownBlock) W' A c l := by
 refine h.imp id (fun h => ?_)
 refine Kd.R_mono (Kd.R_grown (Kd.R_bound h) hg (fun k hk => hk.1)) (fun k hk => ?_)
 rcases hat with e | ⟨g, e, hge⟩
 ·rw [e]; exact hk.1
 ·rw [e]; intro e2; have := hk.2.2.1; cases e2; omega
theorem FgOk.added {w0 W W' : World} {b : Nat} {q : FgV} {v v' : Value} (h : FgOk w0 b (fun k => some k ≠ v.ownBlock) W q) (hg : W.grownBy W' v.ownBlock) (hat : v'.ownBlock = v.ownBlock ∨ ∃ g, v'.ownBlock = some g ∧ W.heap.size ≤ g) : FgOk w0 b (fun k => some k ≠ v'.ownBlock) W' q := ⟨h.r2.added hg hat, h.r3.added hg hat⟩
theorem kp_rows {W W' : World} {h0 B h1 : Nat} {v u : Value} {xs : List FgV} {ys : List Int} {ok : Nat → Prop} (h : Kd.R kfg 26 W h0 (fun k => k ≠ B) v xs) (hu : Kd.R (Kd.int .i64) 3 W h1 ok u ys) (hg : W.grownBy W' u.ownBlock) : Kd.R kfg 26 W' h0 (fun k => k ≠ B) v xs := by
 cases e : u.ownBlock with
 | none => rw [e] at hg; exact Kd.R_grown h hg (fun _ _ => by simp)
 | some g =>
  rw [e] at hg
  obtain ⟨_, _, _, q, hq, cs, hc⟩ := (Kd.R_bound hu).1 g e
  have e2 : q = 3 := by simpa [Kd.int, Kd.scalar] using hq
  exact Kd.R_mono (Kd.R_grown (Kd.R_types h (e2 ▸ hc) (by decide)) hg (fun k hk e => hk.2 (Option.some.inj e))) (fun _ hk => hk.1)
theorem kp_own {W : World} {h0 e : Nat} {ok : Nat → Prop} {v : Value} {xs : List FgV} (h : Kd.R kfg e W h0 ok v xs) (hl : xs.length = 8) : ∃ g c, v = .slice (some ⟨g, 0, none⟩) 8 c := by
 obtain ⟨inner, _, ho⟩ := Kd.R_own h
 rcases ho with ⟨_, h0⟩ | ⟨g, c, _, hv, _⟩
 ·omega
 ·exact ⟨g, c, by rw [hv, hl]⟩
theorem kp_add (g n : Nat) : (⟨g, 0, none⟩ : Addr).add n = ⟨g, n, none⟩ := by
 unfold Addr.add
 split
 ·next h => rw [h]
 ·simp
theorem kp_cells {W : World} {e h0 : Nat} {ok : Nat → Prop} {g c : Nat} {xs : List FgV} (h : Kd.R kfg e W h0 ok (.slice (some ⟨g, 0, none⟩) 8 c) xs) {i : Nat} {q : FgV} (hq : xs[i]? = some q) : W.cell? ⟨g, i * 4, none⟩ = some (.int .i64 q.w) ∧ W.cell? ⟨g, i * 4 + 1, none⟩ = some (.int .i64 q.h) ∧ W.cell? ⟨g, i * 4 + 2, none⟩ = some (.slice q.A2 q.l2.length q.c2) ∧ W.cell? ⟨g, i * 4 + 3, none⟩ = some (.slice q.A3 q.l3.length q.c3) := by
 have hlt : i < xs.length := (List.getElem?_eq_some_iff.1 hq).1
 obtain ⟨ad, eA, hcs⟩ := (Kd.R_reads' h).2.2.2.2 (by omega)
 cases eA
 obtain ⟨cs, _, hcq, hcell⟩ := hcs i q hq
 have hcq : cs = fgC q := hcq
 subst hcq
 have H := fun j u hj => (kp_add g (i * 4 + j) ▸ hcell j u hj : W.cell? ⟨g, i * 4 + j, none⟩ = some u)
 exact ⟨H 0 _ rfl, H 1 _ rfl, H 2 _ rfl, H 3 _ rfl⟩
theorem kp_gen {P : Program} {ops : Array Oper} {Q : Exit → Act → World → Prop} {rest : List Oper} {a : Act} {W0 W : World} {G : Nat} {b0 b1 b2 b3 : Value} (hb : Below W0.heap.size W0 W) (hG : W0.heap.size ≤ G) (hx : W.heap[G]? = some (.cells #[b0, b1, b2, b3] 26 (0, 0))) (u0 u1 u2 u3 : Value)
  (h : ∀ W', Below W0.heap.size W0 W' → W'.heap[G]? = some (.cells #[u0, u1, u2, u3] 26 (0, 0)) → wpList P ops Q rest a W') : wpList P ops Q rest a ((((W.setCell ⟨G, 0, none⟩ u0).setCell ⟨G, 1, none⟩ u1).setCell ⟨G, 2, none⟩ u2).setCell ⟨G, 3, none⟩ u3) :=
 h _ ((((hb.setCell hG _).setCell hG _).setCell hG _).setCell hG _) (e8_sets (w0 := W0) (b0 := 0) (b1 := 0) (ok := fun _ => True) hx u0 u1 u2 u3).1
section
attribute [local go_sem] kp_add
set_option maxHeartbeats 8000000 in
set_option maxRecDepth 100000 in
theorem impl_keeping.calls (k : Nat) (a0_0 : Int) (a0_1 : Int) (A0_2 : Option Addr) (c0_2 : Nat) (l0_2 : List Int) (A0_3 : Option Addr) (c0_3 : Nat) (l0_3 : List Int) (r : List Int) (w : World) (hT : TzTab w) (hr0_2 : Kd.C (Kd.int .i64) w A0_2 l0_2.length l0_2) (hc0_2 : l0_2.length ≤ c0_2) (hr0_3 : Kd.C (Kd.int .i64) w A0_3 l0_3.length l0_3) (hc0_3 : l0_3.length ≤ c0_3) (h : impl_keeping.f k a0_0 a0_1 l0_2 l0_3 = some r) :
 Calls Tryd.prog 43 #[.agg #[.int .i64 a0_0, .int .i64 a0_1, .slice A0_2 l0_2.length c0_2, .slice A0_3 l0_3.length c0_3]] w fun e w' => ∃ v0_ : Value, e = .returned (v0_) ∧ Kd.R (Kd.int .i64) 3 w' w.heap.size (fun _ => True) v0_ r ∧ Below w.heap.size w w' := by
 obtain ⟨E, hE, hK⟩ := Option.bind_eq_some_iff.mp h
 have HT := Aside0.mk hT
 have HR2 := Aside0.mk hr0_2
 have HC2 := Aside0.mk hc0_2
 have HR3 := Aside0.mk hr0_3
 have HC3 := Aside0.mk hc0_3
 have HE : Aside0 (e8 k 4 (fgP ⟨a0_0, a0_1, A0_2, c0_2, l0_2, A0_3, c0_3, l0_3⟩) = some E) := ⟨hE⟩
 have HK := Aside0.mk hK
 clear h hE hK hT hr0_2 hc0_2 hr0_3 hc0_3
 have hu1 := Tryd.underlying26
 have hu2 := Tryd.underlying88
 go_enter Tryd.func43, Tryd.ntmps43
 go_wp2_with (first
  | ((with_reducible refine gate_dst (N := 1) rfl ?_); refine zbx 1 #[.int .i64 a0_0, .int .i64 a0_1, .slice A0_2 l0_2.length c0_2, .slice A0_3 l0_3.length c0_3] 26 ?_; intro B hg w1 hbox hb; have HBX := Aside0.mk hbox; have HBB := Aside0.mk hb; have HB0 : Aside0 (w.heap.size ≤ B) := ⟨Nat.le_of_eq hg.symm⟩; clear hg hbox hb)
  | ((with_reducible refine gate_dst (N := 6) rfl ?_); refine Kd.R_lit (Kd.int .i64) _ 3 ?hg (N := 6) ?hd (xs := ([] : List Int)) (inner := []) (ok := fun _ => True) (okp := fun _ => True) ?hr ?hp (fun _ hk => hk) trivial (Below.refl _ _) (Nat.le_refl _) (by simp) ?_; (case hd => rfl); (case hg => rfl); (case hr => first | (go_simp; done) | (go_simp; rfl)); (case hp => exact Reps.none _ _); intro v0 w2 ho hb hg_ hnew_; have HL0 := Aside0.mk (Kd.R_lower ho (below_size HBB.out)); have HLB := Aside0.mk (fun g hg => ((Kd.R_bound ho).1 g hg).2.2.1); have HBX2 := Aside0.mk (blk_below HBX.out hb); have HBB2 := Aside0.mk (HBB.out.trans (hb.mono (below_size HBB.out))); clear HBX HBB hg_ hnew_ ho hb; obtain ⟨q0, q1, q2, q3, f0, f1, f2, f3⟩ := blk4 HBX2)
  | ((with_reducible refine gate_callee (f := 74) rfl ?_); refine goesL_ (some 8) rfl rfl Tryd.func74 (by kernel_rfl) rfl #[.agg #[.int .i64 a0_0, .int .i64 a0_1, .slice A0_2 l0_2.length c0_2, .slice A0_3 l0_3.length c0_3], .func (.func 75) #[] #[], .func (.func 76) #[] #[]] rfl (by simp only [List.map_toArray, List.map_cons, List.map_nil]; rfl) ?_; (with_reducible refine (eight_calls k ⟨a0_0, a0_1, A0_2, c0_2, l0_2, A0_3, c0_3, l0_3⟩ E w w2 HBB2.out (tz_below HT.out HBB2.out) HR2.out HC2.out HR3.out HC3.out HE.out).mono ?_); rintro e w3 ⟨v8, qs, rfl, hqE, hq8, ho8, hfg, hb8⟩; refine ⟨_, rfl, ?_⟩; obtain ⟨g8, c8, rfl⟩ := kp_own ho8 hq8; have HBX3 := Aside0.mk (blk_below HBX2.out hb8); have HBB3 := Aside0.mk (below_step HBB2.out hb8); have HL3 := Aside0.mk (Kd.R_below HL0.out hb8); have HFG := Aside0.mk (fun q hq => (hfg q hq).apart HLB.out); have HRQ := Aside0.mk (Kd.R_mono (ok' := fun k => k ≠ B) (Kd.R_bound (Kd.R_lower ho8 (Nat.le_refl _))) (fun k hk e => by have := hk.2.1; have := blk_lt HBX2.out; omega)); have HQE := Aside0.mk hqE; clear q0 q1 q2 q3 f0 f1 f2 f3 ho8 hfg hb8 HBX2 HBB2 HL0 HLB))
 go_loopg [3, 10] 8 (fun gg v3 v10 w' => ∃ (i : Nat) (out l : List Int), i ≤ 8 ∧ 8 - i ≤ gg ∧ v10 = .int .i64 i ∧ Aside0 (Kd.R (Kd.int .i64) 3 w' w.heap.size (fun _ => True) v3 out) ∧ Aside0 (w'.heap[B]? = some (.cells #[.int .i64 a0_0, .int .i64 a0_1, .slice A0_2 l0_2.length c0_2, .slice A0_3 l0_3.length c0_3] 26 (0, 0))) ∧ Aside0 (Kd.R kfg 26 w' w2.heap.size (fun k => k ≠ B) (.slice (some ⟨g8, 0, none⟩) 8 c8) qs) ∧ Aside0 (∀ q ∈ qs, FgOk w w2.heap.size (fun k => some k ≠ v3.ownBlock) w' q) ∧ Aside0 (kpL k (a0_0, a0_1, l0_2, l0_3) i ((qs.map fgP).drop i) = some l) ∧ Aside0 (out ++ l = r ∧ out.length ≤ i) ∧ Aside0 (Below w.heap.size w w'))
 case atStart => exact ⟨0, [], r, Nat.zero_le _, by omega, rfl, HL3, HBX3, HRQ, HFG, ⟨by rw [HQE.out]; exact HK.out⟩, ⟨⟨rfl, by simp⟩⟩, HBB3⟩
 case round =>
  clear HL3 HBX3 HRQ HFG HQE HK HBB3
  obtain ⟨i, out, l, hi, hg, rfl, HL, HX, HRQ, HFG, HK, HO, HB⟩ := hrel
  by_cases hlt : i < 8
  ·have hltz : (i : Int) < 8 := by omega
   have hge : (0 : Int) ≤ i := by omega
   have hlt' := Aside0.mk hlt
   obtain ⟨q, hq⟩ : ∃ q, qs[i]? = some q := ⟨_, List.getElem?_eq_getElem (by omega)⟩
   obtain ⟨c0, c1, c2, c3⟩ := kp_cells HRQ.out hq
   obtain ⟨c, l', hcf, hl', rfl⟩ := kpL_cons (by have := HK.out; rwa [List.drop_eq_getElem_cons (by simp; omega), List.getElem_map, show qs[i]'(by omega) = q from Option.some.inj ((List.getElem?_eq_getElem _).symm.trans hq)] at this)
   have HQ := Aside0.mk (HFG.out q (List.mem_of_getElem? hq))
   have HCF : Aside0 (impl_compareFigures.f k q.w q.h q.l2 q.l3 a0_0 a0_1 l0_2 l0_3 = some c) := ⟨hcf⟩
   have HL' := Aside0.mk hl'
   clear hq hcf hl' HK hlt
   obtain ⟨q0, q1, q2, q3, f0, f1, f2, f3⟩ := blk4 HX
   have HLb := Aside0.mk (show (out.length + 1) * 8 ≤ 140737488355328 by have := HO.out.2; omega)
   by_cases hc : c = 0
   ·subst hc
    go_wp2_with (first
     | ((with_reducible refine gate_dst (N := 5) rfl ?_); refine zbx 5 #[.int .i64 0, .int .i64 0, .slice none 0 0, .slice none 0 0] 26 ?_; intro G hG w5 hboxG hbG; have HG := Aside0.mk hboxG; have HBG := Aside0.mk hbG; have HGe : Aside0 (wr.heap.size ≤ G) := ⟨Nat.le_of_eq hG.symm⟩; clear hG hboxG hbG c0 c1 c2 c3 q0 q1 q2 q3 f0 f1 f2 f3; obtain ⟨q0, q1, q2, q3, f0, f1, f2, f3⟩ := blk4 HG)
     | ((with_reducible refine gate_dst (N := 15) rfl ?_); refine kp_gen HBG.out HGe.out HG.out _ _ _ _ ?_; intro w6 hb6 hG6; have HG6 := Aside0.mk hG6; have HB6 := Aside0.mk hb6; have HX6 := Aside0.mk (blk_below HX.out hb6); clear hb6 hG6 q0 q1 q2 q3 f0 f1 f2 f3; obtain ⟨q0, q1, q2, q3, f0, f1, f2, f3⟩ := blk4 HG6; obtain ⟨p0, p1, p2, p3, g0, g1, g2, g3⟩ := blk4 HX6)
     | ((with_reducible refine gate_callee (f := 77) rfl ?_); refine goesL_ (some 17) rfl rfl Tryd.func77 (by kernel_rfl) rfl #[.agg #[.int .i64 q.w, .int .i64 q.h, .slice q.A2 q.l2.length q.c2, .slice q.A3 q.l3.length q.c3], .agg #[.int .i64 a0_0, .int .i64 a0_1, .slice A0_2 l0_2.length c0_2, .slice A0_3 l0_3.length c0_3]] rfl (by simp only [List.map_toArray, List.map_cons, List.map_nil]; rfl) ?_; (with_reducible refine (impl_compareFigures.calls k q.w q.h q.A2 q.c2 q.l2 q.A3 q.c3 q.l3 a0_0 a0_1 A0_2 c0_2 l0_2 A0_3 c0_3 l0_3 _ w6 (Kd.C_below (HQ.out.r2.reads HB.out).1 HB6.out) (HQ.out.r2.reads HB.out).2 (Kd.C_below (HQ.out.r3.reads HB.out).1 HB6.out) (HQ.out.r3.reads HB.out).2 (Kd.C_below (Kd.C_below HR2.out HB.out) HB6.out) HC2.out (Kd.C_below (Kd.C_below HR3.out HB.out) HB6.out) HC3.out HCF.out).mono ?_); rintro e w7 ⟨rfl, hb7⟩; refine ⟨_, rfl, ?_⟩; have HB7 := Aside0.mk (below_step HB6.out hb7); have HBW := Aside0.mk (below_step HB.out (below_step HB6.out hb7)); clear hb7 q0 q1 q2 q3 f0 f1 f2 f3 p0 p1 p2 p3 g0 g1 g2 g3)
     | ((with_reducible refine gate_builtin (b := .append) (xs := #[.tmp 19, .tmp 21]) rfl ?_); at_builtin; refine Kd.R_append (Kd.int .i64) (w0 := w) w.heap.size rfl (.tmp 19) (.tmp 21) 22 3 (.int .i64 0) 8 rfl Tryd.underlying22 kp_info3 rfl (by decide) (by omega) _ out (i : Int) [.int .i64 i] (fun _ => True) (fun _ => False) rfl rfl ?aP (fun _ hk => hk.elim) ?aF ?aO ?aB ?aS ?aL ?_; (case aP => exact rfl); (case aB => exact HBW.out); (case aF => exact (fun _ _ => trivial)); (case aO => exact Kd.R_below HL.out HB7.out); (case aS => exact below_size HBW.out); (case aL => exact HLb.out); intro v1 w8 ho hb2 hg2 hat))
    have HLT := hlt'.out
    have hX7 := blk_below HX.out HB7.out
    have hL7 := Kd.R_below HL.out HB7.out
    have nB : some B ≠ u3.ownBlock := fun e => ((Kd.R_types hL7 hX7 (by decide)).1 B e.symm).2 rfl
    go_roundg (8 - (i + 1))
    case measure => omega
    case rel => exact ⟨i + 1, out ++ [(i : Int)], l', HLT, by omega, by go_num, ⟨ho⟩, ⟨blk_grown hX7 hg2 nB⟩, ⟨kp_rows (Kd.R_below HRQ.out HB7.out) hL7 hg2⟩, ⟨fun q hq => ((HFG.out q hq).below HB7.out).added hg2 hat⟩, HL', ⟨by have := HO.out.1; simpa using this, by have := HO.out.2; simp; omega⟩, ⟨hb2⟩⟩
   ·have hcz : (c == 0) = false := by simpa using hc
    go_wp2_with (first
     | ((with_reducible refine gate_dst (N := 5) rfl ?_); refine zbx 5 #[.int .i64 0, .int .i64 0, .slice none 0 0, .slice none 0 0] 26 ?_; intro G hG w5 hboxG hbG; have HG := Aside0.mk hboxG; have HBG := Aside0.mk hbG; have HGe : Aside0 (wr.heap.size ≤ G) := ⟨Nat.le_of_eq hG.symm⟩; clear hG hboxG hbG c0 c1 c2 c3 q0 q1 q2 q3 f0 f1 f2 f3; obtain ⟨q0, q1, q2, q3, f0, f1, f2, f3⟩ := blk4 HG)
     | ((with_reducible refine gate_dst (N := 15) rfl ?_); refine kp_gen HBG.out HGe.out HG.out _ _ _ _ ?_; intro w6 hb6 hG6; have HG6 := Aside0.mk hG6; have HB6 := Aside0.mk hb6; have HX6 := Aside0.mk (blk_below HX.out hb6); clear hb6 hG6 q0 q1 q2 q3 f0 f1 f2 f3; obtain ⟨q0, q1, q2, q3, f0, f1, f2, f3⟩ := blk4 HG6; obtain ⟨p0, p1, p2, p3, g0, g1, g2, g3⟩ := blk4 HX6)
     | ((with_reducible refine gate_callee (f := 77) rfl ?_); refine goesL_ (some 17) rfl rfl Tryd.func77 (by kernel_rfl) rfl #[.agg #[.int .i64 q.w, .int .i64 q.h, .slice q.A2 q.l2.length q.c2, .slice q.A3 q.l3.length q.c3], .agg #[.int .i64 a0_0, .int .i64 a0_1, .slice A0_2 l0_2.length c0_2, .slice A0_3 l0_3.length c0_3]] rfl (by simp only [List.map_toArray, List.map_cons, List.map_nil]; rfl) ?_; (with_reducible refine (impl_compareFigures.calls k q.w q.h q.A2 q.c2 q.l2 q.A3 q.c3 q.l3 a0_0 a0_1 A0_2 c0_2 l0_2 A0_3 c0_3 l0_3 _ w6 (Kd.C_below (HQ.out.r2.reads HB.out).1 HB6.out) (HQ.out.r2.reads HB.out).2 (Kd.C_below (HQ.out.r3.reads HB.out).1 HB6.out) (HQ.out.r3.reads HB.out).2 (Kd.C_below (Kd.C_below HR2.out HB.out) HB6.out) HC2.out (Kd.C_below (Kd.C_below HR3.out HB.out) HB6.out) HC3.out HCF.out).mono ?_); rintro e w7 ⟨rfl, hb7⟩; refine ⟨_, rfl, ?_⟩; have HB7 := Aside0.mk (below_step HB6.out hb7); have HBW := Aside0.mk (below_step HB.out (below_step HB6.out hb7)); clear hb7 q0 q1 q2 q3 f0 f1 f2 f3 p0 p1 p2 p3 g0 g1 g2 g3))
    have HLT := hlt'.out
    go_roundg (8 - (i + 1))
    case measure => omega
    case rel => exact ⟨i + 1, out, l', HLT, by omega, by go_num, ⟨Kd.R_below HL.out HB7.out⟩, ⟨blk_below HX.out HB7.out⟩, ⟨Kd.R_below HRQ.out HB7.out⟩, ⟨fun q hq => (HFG.out q hq).below HB7.out⟩, HL', ⟨by have := HO.out.1; rwa [if_neg hc] at this, by have := HO.out.2; omega⟩, HBW⟩
  ·have hltz : ¬ (i : Int) < 8 := by omega
   obtain rfl : i = 8 := by omega
   go_wp2
   go_ret
   obtain rfl : [] = l := by have := HK.out; rw [List.drop_eq_nil_of_le (by simp; omega)] at this; simpa [kpL] using this
   exact ⟨u3, rfl, by have := HO.out.1; rw [List.append_nil] at this; exact this ▸ HL.out, HB.out⟩
end

/-! ### impl_IsSymmetric: function 20 -/
set_option maxHeartbeats 8000000 in
set_option maxRecDepth 100000 in
theorem impl_IsSymmetric.calls (k : Nat) (a0_0 : Int) (a0_1 : Int) (A0_2 : Option Addr) (c0_2 : Nat) (l0_2 : List Int) (A0_3 : Option Addr) (c0_3 : Nat) (l0_3 : List Int) (a0_4 : Int) (a0_5 : Bool) (a0_6 : Int) (r1 : Bool) (r2 : Bool) (w : World) (hT : TzTab w) (hr0_2 : Kd.C (Kd.int .i64) w A0_2 l0_2.length l0_2) (hc0_2 : l0_2.length ≤ c0_2) (hr0_3 : Kd.C (Kd.int .i64) w A0_3 l0_3.length l0_3) (hc0_3 : l0_3.length ≤ c0_3) (h : impl_IsSymmetric.f k a0_0 a0_1 l0_2 l0_3 a0_4 a0_5 a0_6 = some (r1, r2)) :
  Calls Tryd.prog 20 #[.agg #[.int .i64 a0_0, .int .i64 a0_1, .slice A0_2 l0_2.length c0_2, .slice A0_3 l0_3.length c0_3, .int .i64 a0_4, .bool a0_5, .int .i64 a0_6]] w fun e w' => e = .returned (.tuple #[.bool r1, .bool r2]) ∧ Below w.heap.size w w' := by
 have hu28 := Tryd.underlying28
 have hu26 := Tryd.underlying26
 have HT := Aside0.mk hT
 clear hT
 have HR0_2 := Aside0.mk hr0_2
 have HC0_2 := Aside0.mk hc0_2
 clear hr0_2 hc0_2
 have HR0_3 := Aside0.mk hr0_3
 have HC0_3 := Aside0.mk hc0_3
 clear hr0_3 hc0_3
 have HB := Aside0.mk (Below.refl w.heap.size w)
 have H : ((impl_IsPuzzle.f k a0_0 a0_1 l0_2 l0_3 a0_4 a0_5 a0_6).bind fun t434 => (if t434 = true then ((impl_keeping.f k a0_0 a0_1 l0_2 l0_3).bind fun t435 => (some (decide ((t435.length : Int) > 1), true))) else (some (false, false)))) = some (r1, r2) := h
 clear h
 replace H := Option.bind_eq_some_iff.mp H
 obtain ⟨t434, A20, H⟩ := H
 replace H : (if t434 = true then ((impl_keeping.f k a0_0 a0_1 l0_2 l0_3).bind fun t435 => (some (decide ((t435.length : Int) > 1), true))) else (some (false, false))) = some (r1, r2) := H
 have A2 := Aside0.mk A20
 clear A20
 by_cases c3 : t434 = true
 ·subst c3
  have H1 : ((impl_keeping.f k a0_0 a0_1 l0_2 l0_3).bind fun t435 => (some (decide ((t435.length : Int) > 1), true))) = some (r1, r2) := by rw [if_pos rfl] at H; exact H
  clear H
  have H := H1
  clear H1
  replace H := Option.bind_eq_some_iff.mp H
  obtain ⟨t435, A40, H⟩ := H
  replace H : (some (decide ((t435.length : Int) > 1), true)) = some (r1, r2) := H
  have A4 := Aside0.mk A40
  clear A40
  simp only [Option.some.injEq, Prod.mk.injEq] at H
  obtain ⟨rfl, rfl⟩ := H
  go_enter Tryd.func20, Tryd.ntmps20
  go_wp2_with (first | ((with_reducible refine gate_dst (N := 1) rfl ?_); refine box_event ?hg (N := 1) ?hd (cs := #[.int .i64 a0_0, .int .i64 a0_1, .slice A0_2 l0_2.length c0_2, .slice A0_3 l0_3.length c0_3, .int .i64 a0_4, .bool a0_5, .int .i64 a0_6]) (t := 28) ?hr ?_; (case hd => rfl); (case hg => rfl); (case hr => first | (go_simp; done) | (go_simp; rfl)); intro gb433 hg w5 hbox hb; have BK433 := Aside0.mk (hbox); have GW433 := Aside0.mk ((by rw [hg]; exact (below_size zB) : w.heap.size ≤ gb433)); have GE433 := Aside0.mk ((by rw [hg]; exact (below_size zB) : w.heap.size ≤ gb433)); replace HB := zBb hb; clear hb hbox hg; have hcz6_0 : w5.cell? ⟨gb433, 0, none⟩ = some (.int .i64 a0_0) := (blk_cell BK433.out 0).trans rfl; have hcz6_1 : w5.cell? ⟨gb433, 1, none⟩ = some (.int .i64 a0_1) := (blk_cell BK433.out 1).trans rfl; have hcz6_2 : w5.cell? ⟨gb433, 2, none⟩ = some (.slice A0_2 l0_2.length c0_2) := (blk_cell BK433.out 2).trans rfl; have hcz6_3 : w5.cell? ⟨gb433, 3, none⟩ = some (.slice A0_3 l0_3.length c0_3) := (blk_cell BK433.out 3).trans rfl; have hcz6_4 : w5.cell? ⟨gb433, 4, none⟩ = some (.int .i64 a0_4) := (blk_cell BK433.out 4).trans rfl; have hcz6_5 : w5.cell? ⟨gb433, 5, none⟩ = some (.bool a0_5) := (blk_cell BK433.out 5).trans rfl; have hcz6_6 : w5.cell? ⟨gb433, 6, none⟩ = some (.int .i64 a0_6) := (blk_cell BK433.out 6).trans rfl; have hfz6_0 := blk_frozen BK433.out 0; have hfz6_1 := blk_frozen BK433.out 1; have hfz6_2 := blk_frozen BK433.out 2; have hfz6_3 := blk_frozen BK433.out 3; have hfz6_4 := blk_frozen BK433.out 4; have hfz6_5 := blk_frozen BK433.out 5; have hfz6_6 := blk_frozen BK433.out 6) | ((with_reducible refine gate_callee (f := 42) rfl ?_); refine goesL_ (some 5) rfl rfl Tryd.func42 (by kernel_rfl) rfl #[.agg #[.int .i64 a0_0, .int .i64 a0_1, .slice A0_2 l0_2.length c0_2, .slice A0_3 l0_3.length c0_3, .int .i64 a0_4, .bool a0_5, .int .i64 a0_6]] rfl zM ?_; (with_reducible refine (impl_IsPuzzle.calls k a0_0 a0_1 _ _ l0_2 _ _ l0_3 a0_4 a0_5 a0_6 true _ ?side1 ?side2 ?side3 ?side4 A2.out).mono ?_); (case side1 => exact zC HR0_2); (case side2 => exact HC0_2.out); (case side3 => exact zC HR0_3); (case side4 => exact HC0_3.out); rintro e w7 ⟨rfl, hb⟩; refine ⟨_, rfl, ?_⟩; replace BK433 := zKb BK433 hb; replace HB := zBb hb; (try clear hb); (try clear hb2); (try clear hk); (try clear hi); have hcz8_0 : w7.cell? ⟨gb433, 0, none⟩ = some (.int .i64 a0_0) := (blk_cell BK433.out 0).trans rfl; have hcz8_1 : w7.cell? ⟨gb433, 1, none⟩ = some (.int .i64 a0_1) := (blk_cell BK433.out 1).trans rfl; have hcz8_2 : w7.cell? ⟨gb433, 2, none⟩ = some (.slice A0_2 l0_2.length c0_2) := (blk_cell BK433.out 2).trans rfl; have hcz8_3 : w7.cell? ⟨gb433, 3, none⟩ = some (.slice A0_3 l0_3.length c0_3) := (blk_cell BK433.out 3).trans rfl; have hcz8_4 : w7.cell? ⟨gb433, 4, none⟩ = some (.int .i64 a0_4) := (blk_cell BK433.out 4).trans rfl; have hcz8_5 : w7.cell? ⟨gb433, 5, none⟩ = some (.bool a0_5) := (blk_cell BK433.out 5).trans rfl; have hcz8_6 : w7.cell? ⟨gb433, 6, none⟩ = some (.int .i64 a0_6) := (blk_cell BK433.out 6).trans rfl; have hfz8_0 := blk_frozen BK433.out 0; have hfz8_1 := blk_frozen BK433.out 1; have hfz8_2 := blk_frozen BK433.out 2; have hfz8_3 := blk_frozen BK433.out 3; have hfz8_4 := blk_frozen BK433.out 4; have hfz8_5 := blk_frozen BK433.out 5; have hfz8_6 := blk_frozen BK433.out 6) | ((with_reducible refine gate_callee (f := 43) rfl ?_); refine goesL_ (some 9) rfl rfl Tryd.func43 (by kernel_rfl) rfl #[.agg #[.int .i64 a0_0, .int .i64 a0_1, .slice A0_2 l0_2.length c0_2, .slice A0_3 l0_3.length c0_3]] rfl zM ?_; (with_reducible refine (impl_keeping.calls k a0_0 a0_1 _ _ l0_2 _ _ l0_3 t435 _ ?side5 ?side1 ?side2 ?side3 ?side4 A4.out).mono ?_); (case side1 => exact zC HR0_2); (case side2 => exact HC0_2.out); (case side3 => exact zC HR0_3); (case side4 => exact HC0_3.out); (case side5 => exact tz_below HT.out zB); rintro e w9 ⟨v436, rfl, ho0, hb⟩; refine ⟨_, rfl, ?_⟩; have HO437 := Aside0.mk (Kd.R_lower ho0 (below_size zB)); replace BK433 := zKb BK433 hb; replace HB := zBb hb; (try clear hb); (try clear hb2); (try clear hk); (try clear hi); (try clear ho0); obtain ⟨Ao10, co10, eo10⟩ := Kd.R_slice HO437.out; subst eo10))
  go_ret2
  exact ⟨by first | rfl | (simp [errW_none, errW_some] <;> rfl) | (simp [*, errW_none, errW_some] <;> rfl), by repeat (first | (with_reducible first | exact HB.out | apply below_alloc | apply pw_below_drewN | apply below_drew1 | refine below_set ?_ GE433.out) | exact HB.out)⟩
 ·replace c3 := Bool.eq_false_iff.mpr c3
  subst c3
  have H1 : (some (false, false)) = some (r1, r2) := by rw [if_neg (show ¬ (false = true) by decide)] at H; exact H
  clear H
  have H := H1
  clear H1
  simp only [Option.some.injEq, Prod.mk.injEq] at H
  obtain ⟨rfl, rfl⟩ := H
  go_enter Tryd.func20, Tryd.ntmps20
  go_wp2_with (first | ((with_reducible refine gate_dst (N := 1) rfl ?_); refine box_event ?hg (N := 1) ?hd (cs := #[.int .i64 a0_0, .int .i64 a0_1, .slice A0_2 l0_2.length c0_2, .slice A0_3 l0_3.length c0_3, .int .i64 a0_4, .bool a0_5, .int .i64 a0_6]) (t := 28) ?hr ?_; (case hd => rfl); (case hg => rfl); (case hr => first | (go_simp; done) | (go_simp; rfl)); intro gb433 hg w11 hbox hb; have BK433 := Aside0.mk (hbox); have GW433 := Aside0.mk ((by rw [hg]; exact (below_size zB) : w.heap.size ≤ gb433)); have GE433 := Aside0.mk ((by rw [hg]; exact (below_size zB) : w.heap.size ≤ gb433)); replace HB := zBb hb; clear hb hbox hg; have hcz12_0 : w11.cell? ⟨gb433, 0, none⟩ = some (.int .i64 a0_0) := (blk_cell BK433.out 0).trans rfl; have hcz12_1 : w11.cell? ⟨gb433, 1, none⟩ = some (.int .i64 a0_1) := (blk_cell BK433.out 1).trans rfl; have hcz12_2 : w11.cell? ⟨gb433, 2, none⟩ = some (.slice A0_2 l0_2.length c0_2) := (blk_cell BK433.out 2).trans rfl; have hcz12_3 : w11.cell? ⟨gb433, 3, none⟩ = some (.slice A0_3 l0_3.length c0_3) := (blk_cell BK433.out 3).trans rfl; have hcz12_4 : w11.cell? ⟨gb433, 4, none⟩ = some (.int .i64 a0_4) := (blk_cell BK433.out 4).trans rfl; have hcz12_5 : w11.cell? ⟨gb433, 5, none⟩ = some (.bool a0_5) := (blk_cell BK433.out 5).trans rfl; have hcz12_6 : w11.cell? ⟨gb433, 6, none⟩ = some (.int .i64 a0_6) := (blk_cell BK433.out 6).trans rfl; have hfz12_0 := blk_frozen BK433.out 0; have hfz12_1 := blk_frozen BK433.out 1; have hfz12_2 := blk_frozen BK433.out 2; have hfz12_3 := blk_frozen BK433.out 3; have hfz12_4 := blk_frozen BK433.out 4; have hfz12_5 := blk_frozen BK433.out 5; have hfz12_6 := blk_frozen BK433.out 6) | ((with_reducible refine gate_callee (f := 42) rfl ?_); refine goesL_ (some 5) rfl rfl Tryd.func42 (by kernel_rfl) rfl #[.agg #[.int .i64 a0_0, .int .i64 a0_1, .slice A0_2 l0_2.length c0_2, .slice A0_3 l0_3.length c0_3, .int .i64 a0_4, .bool a0_5, .int .i64 a0_6]] rfl zM ?_; (with_reducible refine (impl_IsPuzzle.calls k a0_0 a0_1 _ _ l0_2 _ _ l0_3 a0_4 a0_5 a0_6 false _ ?side1 ?side2 ?side3 ?side4 A2.out).mono ?_); (case side1 => exact zC HR0_2); (case side2 => exact HC0_2.out); (case side3 => exact zC HR0_3); (case side4 => exact HC0_3.out); rintro e w13 ⟨rfl, hb⟩; refine ⟨_, rfl, ?_⟩; replace BK433 := zKb BK433 hb; replace HB := zBb hb; (try clear hb); (try clear hb2); (try clear hk); (try clear hi)))
  go_ret2
  exact ⟨by first | rfl | (simp [errW_none, errW_some] <;> rfl) | (simp [*, errW_none, errW_some] <;> rfl), by repeat (first | (with_reducible first | exact HB.out | apply below_alloc | apply pw_below_drewN | apply below_drew1 | refine below_set ?_ GE433.out) | exact HB.out)⟩

end Go.Proofs.YtdjecdghfmadoaaDoor.S
