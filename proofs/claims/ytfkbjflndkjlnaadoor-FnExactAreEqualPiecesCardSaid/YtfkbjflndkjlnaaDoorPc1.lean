import Derived.Test.YtfkbjflndkjlnaaDoorPd
import Derived.Test.YtfkbjflndkjlnaaDoorPc0
namespace Go.Proofs.YtfkbjflndkjlnaaDoor.P
open Go.RowKit Go.Proofs.YtfkbjflndkjlnaaDoorW.PrintWords Go.Proofs.YtfkbjflndkjlnaaDoorW.PrintLast Go.Proofs.YtfkbjflndkjlnaaDoorW.PrintMore
attribute [local go_sem] max2_int min2_int max_two min_two max_three min_three max_four min_four
set_option linter.unusedVariables false
set_option linter.unusedSimpArgs false

/-! ### impl_mirroredShape: function 68 -/
/-! slices.Reverse over bytes -/
set_option maxHeartbeats 1600000 in
set_option maxRecDepth 1000000 in
theorem rv_reverse (blk off cap : Nat) (d : Array Int) (w : World) (hH : Sort.Holds (Value.int .u8) w blk off d) (hsz : d.size ≤ 140737488355328) :
  Calls Tryd.prog 95 #[.slice (some ⟨blk, off, none⟩) d.size cap] w fun e w' => e = .returned (.tuple #[]) ∧ ∃ n, w' = Sort.putRow (Value.int .u8) (Sort.ahead w n) blk off d.reverse := by
 go_enter Tryd.func95, Tryd.ntmps95
 go_wp2
 go_loopg [2, 3] d.size (fun k s2 s3 wr => ∃ (i jn : Nat) (jz : Int) (dk : Array Int) (n : Nat), s2 = .int .i64 i ∧ s3 = .int .i64 jz ∧ ((i : Int) < jz → jz = jn ∧ jn < d.size) ∧ (¬ (i : Int) < jz → ¬ i < jn) ∧ jn - i ≤ k ∧
  dk.size = d.size ∧ wr = Sort.putRow (Value.int .u8) (Sort.ahead w n) blk off dk ∧ Sort.reverseLoop i jn dk = Sort.reverseLoop 0 (d.size - 1) d)
 case atStart => exact ⟨0, d.size - 1, (d.size : Int) - 1, d, 0, rfl, rfl, fun h => ⟨by omega, by omega⟩, fun h => by omega, by omega, rfl, (Sort.putRow_self (Value.int .u8) w blk off d hH).symm, rfl⟩
 case round =>
  obtain ⟨i, jn, jz, dk, n, rfl, rfl, h1, h2, hk, hds, hwr, heq⟩ := hrel
  by_cases hlt : (i : Int) < jz
  ·obtain ⟨rfl, hjn⟩ := h1 hlt
   have hij : i < jn := by omega
   have hHk : Sort.Holds (Value.int .u8) wr blk off dk := by rw [hwr]; exact Sort.holds_putRow (Value.int .u8) _ blk off d dk (Sort.holds_ahead (Value.int .u8) w n blk off d hH) hds
   obtain ⟨ci, fi⟩ := hHk i (by omega)
   obtain ⟨cj, fj⟩ := hHk jn (by omega)
   have A : Aside (wr = Sort.putRow (Value.int .u8) (Sort.ahead w n) blk off dk) := hwr
   clear hwr hHk hH h1 h2
   go_wp2_with fail
   go_region
   go_wp2
   go_roundg (jn - 1 - (i + 1))
   case measure => omega
   case rel =>
    rw [Sort.reverseLoop, if_pos hij] at heq
    exact ⟨i + 1, jn - 1, (jn : Int) - 1, Sort.swp dk i jn, n + 1, by simp, rfl, fun h => ⟨by omega, by omega⟩, fun h => by omega, Nat.le_refl _, by rw [Sort.size_swp]; exact hds,
     Go.Proofs.swap_world (Value.int .u8) (by omega) (by omega) A.out (by first | rfl | simp [getElem!_pos, show jn < dk.size by omega]) (by first | rfl | simp [getElem!_pos, show i < dk.size by omega]), heq⟩
  ·have hnot := h2 hlt
   go_wp2
   go_end0
   refine ⟨rfl, n, ?_⟩
   rw [Sort.reverseLoop, if_neg hnot] at heq
   rw [← Lib.reverseLoop_reverse, ← heq]
def mlAt (ps : List ByteArray) (i : Nat) : List ByteArray := (ps.take i).map mlRow ++ ps.drop i
def mlInts (q : ByteArray) : Array Int := (q.data.toList.map fun b => (b.toNat : Int)).toArray
theorem mlAt_len (ps : List ByteArray) (i : Nat) : (mlAt ps i).length = ps.length := by
 simp [mlAt]; omega
theorem mlAt_zero (ps : List ByteArray) : mlAt ps 0 = ps := by simp [mlAt]
theorem mlAt_all (ps : List ByteArray) : mlAt ps ps.length = ps.map mlRow := by simp [mlAt]
theorem mlAt_get (ps : List ByteArray) (i : Nat) (h : i < ps.length) : rdOf ByteArray.empty (mlAt ps i) (i : Int) = ps[i] := by
 have : (mlAt ps i)[i]? = some ps[i] := by
  unfold mlAt
  rw [List.getElem?_append_right (by simp; omega)]
  simp [Nat.min_eq_left (Nat.le_of_lt h)]
 simp [rdOf, this]
theorem mlAt_set (ps : List ByteArray) (i : Nat) (h : i < ps.length) : (mlAt ps i).set i (mlRow ps[i]) = mlAt ps (i + 1) := by
 unfold mlAt
 rw [List.set_append_right _ _ (by simp; omega), List.length_map, List.length_take, Nat.min_eq_left (Nat.le_of_lt h), Nat.sub_self, List.drop_eq_getElem_cons h, List.set_cons_zero, List.take_succ_eq_append_getElem h, List.map_append]
 simp
theorem mlInts_size (q : ByteArray) : (mlInts q).size = q.size := by
 rw [Lib.size_eq]; simp [mlInts]
/-- the block that '[]byte(q)' makes -/
theorem ml_holds (W : World) (q : ByteArray) (cap : Nat) (t : TypeId) : Sort.Holds (Value.int .u8) (W.drew.alloc (.cells (bytesRow q cap) t ((bytesRow q cap).size, (bytesRow q cap).size + 1))) W.heap.size 0 (mlInts q) := by
 intro j hj
 rw [mlInts_size] at hj
 have hj' : j < q.data.size := hj
 have h1 := World.cell?_alloc_mark W.drew (bytesRow q cap) t ((bytesRow q cap).size, (bytesRow q cap).size + 1) j
 have h2 := World.frozen?_alloc_mark W.drew (bytesRow q cap) t (bytesRow q cap).size ((bytesRow q cap).size + 1) j
 have h3 : j < (bytesRow q cap).size := by simp [bytesRow]; omega
 have e : W.drew.heap.size = W.heap.size := rfl
 rw [e] at h1 h2
 rw [Nat.zero_add, h1, h2, bytesRow_at q cap j hj']
 refine ⟨?_, by simp; omega⟩
 have : j < (mlInts q).size := by rw [mlInts_size]; exact hj
 rw [getElem!_pos (mlInts q) j this]
 simp [mlInts]
theorem ml_back (W : World) (g : Nat) (q : ByteArray) (h : Sort.Holds (Value.int .u8) W g 0 (mlInts q).reverse) : ∀ j (hj : j < q.data.toList.reverse.length), W.cell? (Addr.add ⟨g, 0, none⟩ j) = some (.int .u8 ((q.data.toList.reverse[j]).toNat : Int)) := by
 intro j hj
 have hs : (mlInts q).reverse.size = q.data.toList.reverse.length := by simp [mlInts]
 have h1 := (h j (by omega)).1
 rw [getElem!_pos (mlInts q).reverse j (by omega), Nat.zero_add] at h1
 have e3 : Addr.add ⟨g, 0, none⟩ j = ⟨g, j, none⟩ := by
  by_cases h0 : j = 0
  ·subst h0; simp [Addr.add]
  ·simp [Addr.add, h0]
 rw [e3, h1]
 simp [mlInts]
set_option maxHeartbeats 8000000 in
set_option maxRecDepth 100000 in
theorem ml_main (s : ByteArray) (ps : List ByteArray) (w : World) (hps : shPs s = ps) (hT : TzTab w) (hs : s.size ≤ 1000000) (hpl : 0 < ps.length ∧ ps.length ≤ 1000001) (hsz : ∀ q ∈ ps, q.size ≤ 1000000) (hlen : (Lib.join ((ps.map mlRow).map (·.data.toList)) [47]).length ≤ 140737488355328) :
  Calls Tryd.prog 68 #[.string s] w fun e w' => e = .returned (.string (mlJoin ps)) ∧ Below w.heap.size w w' := by
 have HT := Aside0.mk hT
 have HS := Aside0.mk hs
 have HP := Aside0.mk hps
 have HN := Aside0.mk hpl
 have HSZ := Aside0.mk hsz
 have HLE := Aside0.mk hlen
 have hpz : (0 : Int) < (ps.length : Int) := by have := hpl.1; omega
 have hpy : (ps.length : Int) ≤ 1000001 := by have := hpl.2; omega
 clear hT hs hps hpl hsz hlen
 go_enter Tryd.func68, Tryd.ntmps68
 go_wp2_with (first
  | (go_at_call 22; (with_reducible refine (sh_split s w HT.out HS.out).mono ?_); rintro e w1 ⟨v, rfl, ho, hb⟩; rw [HP.out] at ho; obtain ⟨A, c, rfl, hAc, hR⟩ := Kd.R_reads ho; obtain ⟨a0, rfl, h0⟩ := sh_at0 hR HN.out.1; have HB := Aside0.mk hb; have HR := Aside0.mk ho; clear ho hb hR hAc h0))
 obtain ⟨g0, cg, eg⟩ := tn_own HR.out HN.out.1
 cases eg
 go_loopg [11] ps.length (fun gk v11 W => ∃ i : Nat, i ≤ ps.length ∧ ps.length - i ≤ gk ∧ v11 = .int .i64 i ∧ Aside0 (Kd.R Kd.string 9 W w.heap.size (fun _ => True) (.slice (some ⟨g0, 0, none⟩) ps.length c) (mlAt ps i)) ∧ Aside0 (Below w.heap.size w W))
 case atStart => exact ⟨0, Nat.zero_le _, by omega, rfl, by rw [mlAt_zero]; exact HR, HB⟩
 case round =>
  clear HR HB
  obtain ⟨i, hi, hg, rfl, HR, HB⟩ := hrel
  by_cases hlt : i < ps.length
  ·have hiz : (0 : Int) ≤ (i : Int) := Int.natCast_nonneg _
   have hiy : (i : Int) < (ps.length : Int) := by omega
   obtain ⟨q, hq⟩ : ∃ q, ps[i] = q := ⟨_, rfl⟩
   have hqs : q.size ≤ 1000000 := by rw [← hq]; exact HSZ.out _ (List.getElem_mem hlt)
   have hrow : wr.cell? ⟨g0, i, none⟩ = some (.string q) ∧ wr.frozen? ⟨g0, i, none⟩ = false := by
    have hl := mlAt_len ps i
    have := Kd.R_cell (enc := Value.string) (h1 := fun _ => rfl) ByteArray.empty (g := g0) (by rw [hl]; exact HR.out) (i : Int) hiz (by rw [hl]; exact hiy)
    rw [mlAt_get ps i hlt, hq, Int.toNat_natCast] at this
    exact this
   obtain ⟨hrow, hfro⟩ := hrow
   have hcv := run_bytes_of_string (P := Tryd.prog) wr 9 46 5 q (by kernel_rfl) (by kernel_rfl) (by kernel_rfl)
   have hH := ml_holds wr q (grownCap wr q.size 0 5) 5
   have hB2 : Below wr.heap.size wr (wr.drew.alloc (.cells (bytesRow q (grownCap wr q.size 0 5)) 5 ((bytesRow q (grownCap wr q.size 0 5)).size, (bytesRow q (grownCap wr q.size 0 5)).size + 1))) := below_alloc (below_drew (Below.refl _ _)) _
   generalize (wr.drew.alloc (.cells (bytesRow q (grownCap wr q.size 0 5)) 5 ((bytesRow q (grownCap wr q.size 0 5)).size, (bytesRow q (grownCap wr q.size 0 5)).size + 1))) = W2 at hcv hH hB2
   generalize grownCap wr q.size 0 5 = cap at hcv
   have hrv := rv_reverse wr.heap.size 0 cap (mlInts q) W2 hH (by rw [mlInts_size]; omega)
   rw [mlInts_size] at hrv
   have hback : ∀ n, ∀ W3, W3 = Sort.putRow (Value.int .u8) (Sort.ahead W2 n) wr.heap.size 0 (mlInts q).reverse → Below wr.heap.size wr W3 ∧ (convert 46 9 (.slice (some ⟨wr.heap.size, 0, none⟩) q.size cap)).run Tryd.prog W3 = .ok (.string (mlRow q)) W3 := by
    rintro n W3 rfl
    refine ⟨Lib.below_putRow hB2 (Nat.le_refl _), ?_⟩
    have h3 := ml_back _ wr.heap.size q (Sort.holds_putRow (Value.int .u8) (Sort.ahead W2 n) wr.heap.size 0 (mlInts q) (mlInts q).reverse (Sort.holds_ahead (Value.int .u8) W2 n wr.heap.size 0 (mlInts q) hH) (by simp))
    have h4 := run_convert_bytes_back (P := Tryd.prog) _ 46 9 5 ⟨wr.heap.size, 0, none⟩ cap q.data.toList.reverse (by kernel_rfl) (by kernel_rfl) (by kernel_rfl) h3
    have e : q.data.toList.reverse.length = q.size := by rw [List.length_reverse, ← Lib.size_eq]
    rw [e] at h4
    exact h4
   clear hH hB2
   have HBK := Aside0.mk hback
   have HRV := Aside0.mk hrv
   clear hback hrv
   go_wp2_with (first
    | (go_at_call 95; (with_reducible refine HRV.out.mono ?_); rintro e w3 ⟨rfl, n, hw3⟩; obtain ⟨hb3, hcb⟩ := HBK.out n w3 hw3; have HB3 := Aside0.mk hb3; have HR3 := Aside0.mk (Kd.R_below HR.out hb3); have hrow3 := Kd.R_cell (enc := Value.string) (h1 := fun _ => rfl) ByteArray.empty (g := g0) (xs := mlAt ps i) (by rw [mlAt_len]; exact HR3.out) (i : Int) hiz (by rw [mlAt_len]; exact hiy); rw [mlAt_get ps i hlt, hq, Int.toNat_natCast] at hrow3; obtain ⟨hrow3, hfro3⟩ := hrow3; clear hrow hfro hcv hw3 hb3))
   have hput := Kd.R_put (enc := Value.string) (h1 := fun _ => rfl) (g := g0) (xs := mlAt ps i) (by rw [mlAt_len]; exact HR3.out) (i : Int) (mlRow q)
   rw [Int.toNat_natCast, ← hq, mlAt_set ps i hlt, hq] at hput
   have hlen2 : (mlAt ps i).length = ps.length := mlAt_len ps i
   rw [hlen2] at hput
   have hg0 : w.heap.size ≤ g0 := Kd.R_base HR.out g0 rfl
   have HB4 := below_set (j := i) (v := .string (mlRow q)) (HB.out.trans (HB3.out.mono (below_size HB.out))) hg0
   go_roundg (ps.length - (i + 1))
   case measure => omega
   case rel => exact ⟨i + 1, by omega, Nat.le_refl _, by go_num, ⟨hput.1⟩, ⟨HB4⟩⟩
  ·obtain rfl : i = ps.length := by omega
   rw [mlAt_all] at HR
   have hg0 : w.heap.size ≤ g0 := Kd.R_base HR.out g0 rfl
   have hml : (ps.map mlRow).length = ps.length := List.length_map _
   have hRR := HR.out
   rw [← hml] at hRR
   obtain ⟨hc1, hc2, hC⟩ := Kd.R_reads' hRR
   have hlt0 := Kd.R_lt hRR g0 rfl
   have hj := sj_join g0 c (ps.map mlRow) wr hC hlt0 (by omega) hc2 HLE.out
   rw [hml] at hj
   have HJ : Aside0 (Calls Tryd.prog 63 #[.slice (some ⟨g0, 0, none⟩) ps.length c, .string ⟨#[47]⟩] wr fun e w' => e = .returned (.string (mlJoin ps)) ∧ Below wr.heap.size wr w') := ⟨hj⟩
   clear hj hc1 hc2 hC hRR hml hlt
   go_wp2_with (first
    | (go_at_call 63; (with_reducible refine HJ.out.mono ?_); rintro e w4 ⟨rfl, hb4⟩; have HB4 := Aside0.mk hb4; clear hb4))
   go_ret
   exact ⟨rfl, HB.out.trans (HB4.out.mono (below_size HB.out))⟩
theorem impl_mirroredShape.calls (a0 r : ByteArray) (w : World) (hT : TzTab w) (h : impl_mirroredShape.f a0 = some r) :
  Calls Tryd.prog 68 #[.string a0] w fun e w' => e = .returned (.string r) ∧ Below w.heap.size w w' := by
 unfold impl_mirroredShape.f at h
 by_cases hs : a0.size ≤ 1000000
 ·rw [if_pos hs] at h
  obtain rfl := Option.some.inj h
  have hl := sh_len a0 hs
  have hq : ∀ q ∈ shPs a0, q.size ≤ 1000000 := fun q hq => Nat.le_trans (shPs_size a0 q hq) hs
  have h4 := sj_len (((shPs a0).map mlRow).map (·.data.toList)) 1000000 (fun x hx => by
   simp only [List.map_map, List.mem_map, Function.comp] at hx
   obtain ⟨q, hq', rfl⟩ := hx
   have := hq q hq'
   rw [Lib.size_eq] at this
   simpa [mlRow] using this)
  have h5 : (1000000 + 1) * (((shPs a0).map mlRow).map (·.data.toList)).length ≤ (1000000 + 1) * 1000001 := Nat.mul_le_mul_left _ (by simpa using hl.2)
  exact ml_main a0 (shPs a0) w rfl hT hs ⟨by omega, hl.2⟩ hq (by omega)
 ·rw [if_neg hs] at h; cases h

/-! ### impl_leastShape: function 31 -/
theorem e8s_succ {n : Nat} {x : ByteArray} {L : List ByteArray} (h : e8s (n + 1) x = some L) : ∃ m t r, impl_mirroredShape.f x = some m ∧ impl_turnedShape.f x = some t ∧ e8s n t = some r ∧ L = x :: m :: r := by
 simp only [e8s] at h
 obtain ⟨m, h1, h⟩ := Option.bind_eq_some_iff.mp h
 obtain ⟨t, h2, h⟩ := Option.bind_eq_some_iff.mp h
 obtain ⟨r, h3, h⟩ := Option.bind_eq_some_iff.mp h
 exact ⟨m, t, r, h1, h2, h3, (Option.some.inj h).symm⟩
theorem e8s_len : ∀ n x L, e8s n x = some L → L.length = 2 * n
 | 0, _, _, h => by cases h; rfl
 | n + 1, x, L, h => by
  obtain ⟨m, t, r, _, _, h3, rfl⟩ := e8s_succ h
  have := e8s_len n t r h3
  simp only [List.length_cons]; omega
theorem e8s_info : (Tryd.prog.info? 9).map (fun i => (i.zero, i.size, i.bytes)) = some (some (.string ⟨#[]⟩), 1, 16) := by kernel_rfl
theorem e8s_pair (W : World) (b : Nat) (okp : Nat → Prop) (y m : ByteArray) : Reps (Kd.string.M W b okp) Kd.string.sz [y, m] [.string y, .string m] := Reps.snoc (p := m) (c := [.string m]) (Reps.snoc (p := y) (c := [.string y]) (Reps.none _ _) rfl rfl) rfl rfl
section
variable {P : Program} {ops : Array Oper} {Q : Exit → Act → World → Prop}
theorem goesVs_ {rest : List Oper} {oi : Oper} {a : Act} {w : World} (N : Option Tmp) (hd : oi.dst = N) (hg : oi.guard = none) {f : FuncId} {fn : Func} {o : Operand} {ar : Array Operand} {ts : Array TypeId} (hf : P.funcs[f]? = some fn) (hname : (fn.name == "runtime.NumGoroutine") = false) (hb : fn.body.isSome = true) (args : Array Value)
  (hop : oi.op = .call { callee := .value o, args := ar, argTypes := ts }) (hov : a.eval o = .func (.func f) #[] #[]) (hargs : ar.map a.eval = args)
  (h : Calls P f args w fun e w' => ∃ v, e = .returned v ∧ wpList P ops Q rest (a.put N v) w') : wpList P ops Q (oi :: rest) a w := by
 refine wpList_plain hg fun K hK => ?_
 have he := enters_ hf hname hb args w
 have hrun : (execOp a.eval oi).run P w = .ok (.enter f args) w := by
  unfold execOp
  simp [hop, resolve, Deferred.ofValue, invoke, hov, hargs, he]
 unfold Oper.wp
 rw [hrun, Oper.upon_enter, hd]
 refine h.mono fun e w'' hh => ?_
 obtain ⟨v, rfl, hk⟩ := hh
 exact hK _ _ hk
end
set_option maxHeartbeats 8000000 in
set_option maxRecDepth 100000 in
theorem e8s_calls (x : ByteArray) (L : List ByteArray) (w : World) (hT : TzTab w) (h : e8s 4 x = some L) :
  Calls Tryd.prog 67 #[.string x, .func (.func 29) #[] #[], .func (.func 68) #[] #[]] w fun e w' => ∃ v, e = .returned v ∧ Kd.R Kd.string 9 w' w.heap.size (fun _ => True) v L ∧ Below w.heap.size w w' := by
 have HT := Aside0.mk hT
 have HE := Aside0.mk h
 clear hT h
 go_enter Tryd.func67, Tryd.ntmps67
 go_wp2_with (first
  | ((with_reducible refine gate_dst (N := 8) rfl ?_); refine Kd.R_lit Kd.string _ 9 ?hg (N := 8) ?hd (xs := ([] : List ByteArray)) (inner := []) (ok := fun _ => True) (okp := fun _ => True) ?hr ?hp (fun _ hk => hk) trivial (Below.refl _ _) (Nat.le_refl _) (by simp) ?_; (case hd => rfl); (case hg => rfl); (case hr => first | (go_simp; done) | (go_simp; rfl)); (case hp => exact Reps.none _ _); intro v0 w1 ho hb hg_ hnew_; have HL0 := Aside0.mk ho; have HB0 := Aside0.mk hb; clear hg_ hnew_ ho hb))
 go_loopg [0, 7, 9] 4 (fun gg v0 v7 v9 w' => ∃ (i : Nat) (y : ByteArray) (pre L' : List ByteArray), i ≤ 4 ∧ 4 - i ≤ gg ∧ v0 = .string y ∧ v9 = .int .i64 i ∧ Aside0 (e8s (4 - i) y = some L') ∧ Aside0 (L = pre ++ L') ∧ Aside0 (pre.length ≤ 2 * i) ∧ Aside0 (Kd.R Kd.string 9 w' w.heap.size (fun _ => True) v7 pre) ∧ Aside0 (Below w.heap.size w w'))
 case atStart => exact ⟨0, x, [], L, Nat.zero_le _, by omega, rfl, rfl, HE, ⟨rfl⟩, ⟨by simp⟩, HL0, HB0⟩
 case round =>
  clear HL0 HB0 HE
  obtain ⟨i, y, pre, L', hi, hg, rfl, rfl, HE, HEL, HPL, HL, HB⟩ := hrel
  by_cases hlt : i < 4
  ·obtain ⟨m, t, r, hm, ht, hr, hL⟩ := e8s_succ (n := 3 - i) ((show 4 - i = (3 - i) + 1 by omega) ▸ HE.out)
   have HEm := Aside0.mk hm
   have HEt := Aside0.mk ht
   have HEr := Aside0.mk hr
   have hltz : (i : Int) < 4 := by omega
   subst hL
   clear HE hm ht hr
   go_wp2_with (first
    | ((with_reducible refine gate_dst (N := 15) rfl ?_); refine goesVs_ (some 15) rfl rfl Tryd.func68 (by kernel_rfl) rfl #[.string y] rfl rfl (by simp only [List.map_toArray, List.map_cons, List.map_nil]; rfl) ?_; (with_reducible refine (impl_mirroredShape.calls y m _ (tz_below HT.out HB.out) HEm.out).mono ?_); rintro e w2 ⟨rfl, hb⟩; refine ⟨_, rfl, ?_⟩; have HB2 := Aside0.mk (below_step HB.out hb); have HL2 := Aside0.mk (Kd.R_below HL.out hb); clear hb)
    | ((with_reducible refine gate_dst (N := 16) rfl ?_); refine Kd.R_lit Kd.string _ 9 ?hg (N := 16) ?hd (xs := [y, m]) (inner := [.string y, .string m]) (ok := fun _ => True) (okp := fun _ => True) ?hr ?hp (fun _ hk => hk) trivial (Below.refl _ _) (Nat.le_refl _) (by simp) ?_; (case hd => rfl); (case hg => rfl); (case hr => first | (go_simp; done) | (go_simp; rfl)); (case hp => exact e8s_pair _ _ _ y m); intro v16 w3 ho hb hg_ hnew_; have HN3 := Aside0.mk ho; have HB3 := Aside0.mk (below_step HB2.out hb); have HL3 := Aside0.mk (Kd.R_below HL2.out hb); obtain ⟨A3, c3, rfl⟩ := Kd.R_slice ho; clear hg_ hnew_ ho hb)
    | ((with_reducible refine gate_builtin (b := .append) (xs := #[.tmp 11, .tmp 16]) rfl ?_); at_builtin; refine Kd.R_append_rows Kd.string (w0 := w) (Rr := fun q cs => cs = [.string q]) w.heap.size rfl (.tmp 11) (.tmp 16) 37 9 (.string ⟨#[]⟩) 16 rfl Tryd.underlying37 e8s_info rfl (by decide) (by omega) u7 pre [y, m] A3 2 c3 (fun _ => True) (fun _ => False) rfl rfl HL3.out (Kd.R_reads' HN3.out).2.2 (fun _ _ h => h) (fun _ hk => hk.elim) (fun _ _ => trivial) HB3.out (below_size HB3.out) (by have := HPL.out; omega) ?_; intro v17 w4 ho hb hg_ hat_; have HL4 := Aside0.mk ho; have HB4 := Aside0.mk hb; clear hg_ hat_ ho hb)
    | ((with_reducible refine gate_dst (N := 20) rfl ?_); refine goesVs_ (some 20) rfl rfl Tryd.func29 (by kernel_rfl) rfl #[.string y] rfl rfl (by simp only [List.map_toArray, List.map_cons, List.map_nil]; rfl) ?_; (with_reducible refine (impl_turnedShape.calls y t _ (tz_below HT.out HB4.out) HEt.out).mono ?_); rintro e w5 ⟨rfl, hb⟩; refine ⟨_, rfl, ?_⟩; have HB5 := Aside0.mk (below_step HB4.out hb); have HL5 := Aside0.mk (Kd.R_below HL4.out hb); clear hb))
   go_roundg (4 - (i + 1))
   case measure => omega
   case rel => exact ⟨i + 1, t, pre ++ [y, m], r, by omega, Nat.le_refl _, rfl, by go_num, (show 3 - i = 4 - (i + 1) by omega) ▸ HEr, ⟨by rw [HEL.out]; simp⟩, ⟨by have := HPL.out; simp; omega⟩, HL5, HB5⟩
  ·obtain rfl : i = 4 := by omega
   have hL' : L' = [] := by have := HE.out; simpa [e8s] using this.symm
   subst hL'
   have hLe : L = pre := by rw [HEL.out, List.append_nil]
   subst hLe
   go_wp2
   go_ret
   exact ⟨_, rfl, HL.out, HB.out⟩
/-! slices.Min over texts -/
set_option maxHeartbeats 2000000 in
set_option maxRecDepth 100000 in
theorem mn_min (b n c : Nat) (zs : List ByteArray) (w : World) (hn : 0 < n) (hz : n ≤ zs.length) (hbig : n ≤ 9223372036854775807) (hc : ∀ j, j < zs.length → w.cell? ⟨b, 0 + j, none⟩ = some (.string (zs.getD j ByteArray.empty))) :
  Calls Tryd.prog 66 #[.slice (some ⟨b, 0, none⟩) n c] w fun e w' => e = .returned (.string (Lib.minOfS (zs.take n))) ∧ w' = w := by
 have hmx : ∀ (w : World) (x y : ByteArray), (Builtin.min2 (.string x) (.string y)).run Tryd.prog w = .ok (.string (Lib.minS x y)) w := fun w x y => by
  have h := Lib.run_min_strs (P := Tryd.prog) w #[] 0 x y
  simpa [min_two] using h
 have h0 : w.cell? ⟨b, 0, none⟩ = some (.string (zs.getD 0 ByteArray.empty)) := by simpa using hc 0 (by omega)
 go_enter Tryd.func66, Tryd.ntmps66
 go_wp2
 go_loopg [3, 4] n (fun g m i wr => ∃ k : Nat, 0 < k ∧ k ≤ n ∧ n - k ≤ g ∧ i = .int .i64 k ∧ m = .string (Lib.minOfS (zs.take k)) ∧ wr = w)
 case atStart => exact ⟨1, Nat.one_pos, hn, by omega, rfl, by rw [Lib.minOfS_one]; simp [List.getD], rfl⟩
 case round =>
  obtain ⟨k, hk0, hk, hg, rfl, rfl, rfl⟩ := hrel
  by_cases hlt : k < n
  ·have ck : wr.cell? ⟨b, 0 + k, none⟩ = some (.string (zs.getD k ByteArray.empty)) := hc k (by omega)
   rw [Nat.zero_add] at ck
   have S : Aside (Lib.minOfS (zs.take (k + 1)) = Lib.minS (Lib.minOfS (zs.take k)) (zs.getD k ByteArray.empty)) := Lib.minOfS_step zs k hk0 (by omega)
   clear hc h0
   go_wp2
   go_roundg (n - (k + 1))
   case measure => omega
   case rel => exact ⟨k + 1, Nat.succ_pos k, by omega, Nat.le_refl _, by go_num, by rw [S.out]; simp [List.getD], rfl⟩
  ·have : k = n := by omega
   subst this
   clear hc h0
   go_wp2
   go_ret
   exact ⟨rfl, rfl⟩
theorem tn_own8 {W : World} {b : Nat} {ok : Nat → Prop} {v : Value} {xs : List ByteArray} (h : Kd.R Kd.string 9 W b ok v xs) (hn : 0 < xs.length) : ∃ g c, v = .slice (some ⟨g, 0, none⟩) xs.length c := by
 obtain ⟨inner, ho⟩ := Kd.R_own h
 rcases ho.2 with ⟨rfl, e⟩ | ⟨g, cap, cur, rfl, _⟩
 ·omega
 ·exact ⟨g, cap, rfl⟩
theorem mn_cells {W : World} {b g c : Nat} {ok : Nat → Prop} {xs : List ByteArray} (h : Kd.R Kd.string 9 W b ok (.slice (some ⟨g, 0, none⟩) xs.length c) xs) : ∀ j, j < xs.length → W.cell? ⟨g, 0 + j, none⟩ = some (.string (xs.getD j ByteArray.empty)) := by
 intro j hj
 have := (Kd.R_cell (enc := Value.string) (h1 := fun _ => rfl) ByteArray.empty h (j : Int) (by omega) (by omega)).1
 rw [Int.toNat_natCast] at this
 rw [Nat.zero_add, this]
 simp [rdOf]
theorem impl_leastShape.calls (a0 r : ByteArray) (w : World) (hT : TzTab w) (h : impl_leastShape.f a0 = some r) :
  Calls Tryd.prog 31 #[.string a0] w fun e w' => e = .returned (.string r) ∧ Below w.heap.size w w' := by
 have HT := Aside0.mk hT
 unfold impl_leastShape.f at h
 obtain ⟨L, hL, h⟩ := Option.bind_eq_some_iff.mp h
 obtain rfl := Option.some.inj h
 have HL := Aside0.mk hL
 have HN := Aside0.mk (show L.length = 8 from e8s_len 4 a0 L hL)
 clear hT hL h
 go_enter Tryd.func31, Tryd.ntmps31
 go_wp2_with (first
  | (go_at_call 67; (with_reducible refine (e8s_calls a0 L w HT.out HL.out).mono ?_); rintro e w1 ⟨v, rfl, ho, hb⟩; have HB := Aside0.mk hb; have hown := tn_own8 ho (by have := HN.out; omega); obtain ⟨g, c, rfl⟩ := hown; have HC := Aside0.mk (mn_cells ho); clear ho hb)
  | (go_at_call 66; (with_reducible refine (mn_min g L.length c L _ (by have := HN.out; omega) (Nat.le_refl _) (by have := HN.out; omega) HC.out).mono ?_); rintro e w2 ⟨rfl, rfl⟩))
 go_ret
 exact ⟨rfl, HB.out⟩

/-! ### spec_l1Split: function 84 -/
set_option maxHeartbeats 8000000 in
set_option maxRecDepth 100000 in
theorem spec_l1Split.calls (k : Nat) (a0 : ByteArray) (a1 : Int) (r : List ByteArray) (w : World) (h : spec_l1Split.f k a0 a1 = some r) :
  Calls Tryd.prog 84 #[.string a0, .int .u8 a1] w fun e w' => ∃ v0_ : Value, e = .returned (v0_) ∧ Kd.R Kd.string 9 w' w.heap.size (fun _ => True) v0_ r ∧ Below w.heap.size w w' := by
 have HB := Aside0.mk (Below.refl w.heap.size w)
 have H : (spec_l1Split.l0 k a0 a1 ([] : List ByteArray) 0 0) = some r := h
 clear h
 have H' := Aside0.mk H
 clear H
 go_enter Tryd.func84, Tryd.ntmps84
 go_wp2
 go_loopg [5, 6, 7] k (fun kq v5 v6 v7 w' => ∃ (x5_1 : List ByteArray) (x6_1 : Int) (x7_1 : Int), v6 = .int .i64 x6_1 ∧ v7 = .int .i64 x7_1 ∧ Aside0 (spec_l1Split.l0 kq a0 a1 x5_1 x6_1 x7_1 = some r) ∧ Aside0 (kq ≤ k) ∧ Aside0 (Kd.R Kd.string 9 w' w.heap.size (fun _ => True) v5 x5_1) ∧ Aside0 (Below w.heap.size w w'))
 case atStart => exact ⟨(([] : List ByteArray)), (0), (0), zA, zA, H', ⟨Nat.le_refl _⟩, ⟨by first | exact Kd.R_nil _ _ _ _ _ | exact Kd.N_nil _ _ _ _ _ | exact Kd.V_nil _ _ _ _ _ | exact Kd.Q_nil _ _ _ _ _ | exact Kd.S_nil _ _ _ _ _⟩, ⟨zB⟩⟩
 case round =>
  clear H'
  try clear p2
  obtain ⟨x5_1, x6_1, x7_1, rfl, rfl, HA, HK1, HO_5, HB⟩ := hrel
  cases gk with
  | zero => exact absurd HA.out (by simp [spec_l1Split.l0])
  | succ k1 =>
   have H := HA.out
   clear HA
   simp only [spec_l1Split.l0] at H
   by_cases c3 : x7_1 < (a0.size : Int)
   ·rw [if_pos c3] at H
    have c3b0 : decide (x7_1 < (a0.size : Int)) = true := decide_eq_true c3
    clear c3
    by_cases c4 : 0 ≤ x7_1
    ·rw [if_pos c4] at H
     have c4b0 : decide (0 ≤ x7_1) = true := decide_eq_true c4
     clear c4
     by_cases c6 : (bt a0 x7_1) = a1
     ·rw [if_pos c6] at H
      have c6b0 : ((bt a0 x7_1) == a1) = true := beq_iff_eq.mpr c6
      have c6b1 : ((bt a0 x7_1) != a1) = false := bne_eq_false_iff_eq.mpr c6
      clear c6
      by_cases c7 : 0 ≤ x6_1
      ·rw [if_pos c7] at H
       have c7b0 := eq_true c7
       have c7b1 : decide (0 ≤ x6_1) = true := decide_eq_true c7
       clear c7
       by_cases c8 : x6_1 ≤ x7_1
       ·rw [if_pos c8] at H
        have c8b0 := eq_true c8
        have c8b1 : decide (x6_1 ≤ x7_1) = true := decide_eq_true c8
        clear c8
        by_cases c9 : x7_1 ≤ (a0.size : Int)
        ·rw [if_pos c9] at H
         have c9b0 := eq_true c9
         have c9b1 : decide (x7_1 ≤ (a0.size : Int)) = true := decide_eq_true c9
         clear c9
         by_cases c10 : x5_1.length < 8796093022208
         ·rw [if_pos c10] at H
          have LMc10 := Aside0.mk c10
          clear c10
          obtain ⟨y107, hy107⟩ : ∃ y_ : List ByteArray, y_ = (x5_1 ++ [a0.extract (x6_1 : Int).toNat (x7_1 : Int).toNat]) := ⟨_, rfl⟩
          replace H : (spec_l1Split.l0 k1 a0 a1 y107 (wrap64 (x7_1 + 1)) (wrap64 (x7_1 + 1))) = some r := by first | (rw [hy107]; with_reducible exact H) | (have H2_ := (Option.bind_some _ _).symm.trans H; rw [hy107]; with_reducible exact H2_) | (have H2_ := (Option.bind_some _ _).symm.trans H; with_reducible exact H2_) | with_reducible exact H | (rw [hy107]; exact H) | exact H
          have Ny107 := Aside0.mk hy107
          clear hy107
          have H' := Aside0.mk H
          clear H
          have p5 : 0 ≤ (x7_1 : Int) := of_decide_eq_true (by assumption)
          have q5 : x7_1 < (a0.size : Int) := of_decide_eq_true (by assumption)
          have hx5 := bt_at a0 x7_1
          replace p5 := eq_true p5
          replace q5 := eq_true q5
          go_wp2_with (first | ((with_reducible refine gate_builtin (b := .append) (xs := #[.tmp 19, .tmp 24]) rfl ?_); at_builtin; refine Kd.R_append Kd.string (w0 := w) w.heap.size rfl (.tmp 19) (.tmp 24) 37 9 (.string ⟨#[]⟩) 16 rfl Tryd.underlying37 info9 rfl (by decide) (by omega) u5 x5_1 (a0.extract (x6_1 : Int).toNat (x7_1 : Int).toNat) [.string (a0.extract (x6_1 : Int).toNat (x7_1 : Int).toNat)] (fun _ => True) (fun _ => False) rfl rfl ?aP (fun _ hk => hk.elim) ?aF ?aO ?aB ?aS ?aL ?_; (case aP => exact rfl); (case aB => exact zB); (case aF => exact (fun _ _ => trivial)); (case aO => exact (zR HO_5)); (case aS => exact (below_size zB)); (case aL => have := LMc10.out; omega); intro v108 w11 ho hb hg hat; rw [← Ny107.out] at ho; have n0_ := Aside0.mk (hb); have n1_ := Aside0.mk (ho); clear HB; clear HO_5; have HB := n0_; have HO109 := n1_; clear n0_ n1_; clear ho hb hg hat))
          go_roundg k1
          case measure => have := HK1.out; omega
          case rel => exact ⟨(y107), (wrap64 (x7_1 + 1)), (wrap64 (x7_1 + 1)), zA, zA, H', ⟨by have := HK1.out; omega⟩, ⟨zR HO109⟩, ⟨zB⟩⟩
         ·rw [if_neg c10] at H
          exact absurd H (by simp)
        ·rw [if_neg c9] at H
         exact absurd H (by simp)
       ·rw [if_neg c8] at H
        exact absurd H (by simp)
      ·rw [if_neg c7] at H
       exact absurd H (by simp)
     ·rw [if_neg c6] at H
      have c6b0 : ((bt a0 x7_1) == a1) = false := beq_eq_false_iff_ne.mpr c6
      have c6b1 : ((bt a0 x7_1) != a1) = true := bne_iff_ne.mpr c6
      have H' := Aside0.mk H
      clear H
      have p5 : 0 ≤ (x7_1 : Int) := of_decide_eq_true (by assumption)
      have q5 : x7_1 < (a0.size : Int) := of_decide_eq_true (by assumption)
      have hx5 := bt_at a0 x7_1
      replace p5 := eq_true p5
      replace q5 := eq_true q5
      go_wp2
      go_roundg k1
      case measure => have := HK1.out; omega
      case rel => exact ⟨(x5_1), (x6_1), (wrap64 (x7_1 + 1)), zA, zA, H', ⟨by have := HK1.out; omega⟩, ⟨zR HO_5⟩, ⟨zB⟩⟩
    ·rw [if_neg c4] at H
     exact absurd H (by simp)
   ·rw [if_neg c3] at H
    have c3b0 : decide (x7_1 < (a0.size : Int)) = false := decide_eq_false c3
    clear c3
    by_cases c12 : 0 ≤ x6_1
    ·rw [if_pos c12] at H
     have c12b0 := eq_true c12
     have c12b1 : decide (0 ≤ x6_1) = true := decide_eq_true c12
     clear c12
     by_cases c13 : x6_1 ≤ (a0.size : Int)
     ·rw [if_pos c13] at H
      have c13b0 := eq_true c13
      have c13b1 : decide (x6_1 ≤ (a0.size : Int)) = true := decide_eq_true c13
      clear c13
      by_cases c14 : x5_1.length < 8796093022208
      ·rw [if_pos c14] at H
       have LMc14 := Aside0.mk c14
       clear c14
       obtain ⟨y110, hy110⟩ : ∃ y_ : List ByteArray, y_ = (x5_1 ++ [a0.extract (x6_1 : Int).toNat a0.size]) := ⟨_, rfl⟩
       replace H : (some y110) = some r := by first | (rw [hy110]; with_reducible exact H) | (have H2_ := (Option.bind_some _ _).symm.trans H; rw [hy110]; with_reducible exact H2_) | (have H2_ := (Option.bind_some _ _).symm.trans H; with_reducible exact H2_) | with_reducible exact H | (rw [hy110]; exact H) | exact H
       have Ny110 := Aside0.mk hy110
       clear hy110
       obtain rfl := Option.some.inj H
       go_wp2_with (first | ((with_reducible refine gate_builtin (b := .append) (xs := #[.tmp 28, .tmp 32]) rfl ?_); at_builtin; refine Kd.R_append Kd.string (w0 := w) w.heap.size rfl (.tmp 28) (.tmp 32) 37 9 (.string ⟨#[]⟩) 16 rfl Tryd.underlying37 info9 rfl (by decide) (by omega) u5 x5_1 (a0.extract (x6_1 : Int).toNat a0.size) [.string (a0.extract (x6_1 : Int).toNat a0.size)] (fun _ => True) (fun _ => False) rfl rfl ?aP (fun _ hk => hk.elim) ?aF ?aO ?aB ?aS ?aL ?_; (case aP => exact rfl); (case aB => exact zB); (case aF => exact (fun _ _ => trivial)); (case aO => exact (zR HO_5)); (case aS => exact (below_size zB)); (case aL => have := LMc14.out; omega); intro v111 w15 ho hb hg hat; rw [← Ny110.out] at ho; have n0_ := Aside0.mk (hb); have n1_ := Aside0.mk (ho); clear HB; clear HO_5; have HB := n0_; have HO112 := n1_; clear n0_ n1_; clear ho hb hg hat))
       go_ret
       exact ⟨_, zE, zR HO112, zB⟩
      ·rw [if_neg c14] at H
       exact absurd H (by simp)
     ·rw [if_neg c13] at H
      exact absurd H (by simp)
    ·rw [if_neg c12] at H
     exact absurd H (by simp)

/-! ### spec_piRows: function 49 -/
set_option maxHeartbeats 8000000 in
set_option maxRecDepth 100000 in
theorem spec_piRows.calls (k : Nat) (a0 : ByteArray) (r : List ByteArray) (w : World) (h : spec_piRows.f k a0 = some r) :
  Calls Tryd.prog 49 #[.string a0] w fun e w' => ∃ v0_ : Value, e = .returned (v0_) ∧ Kd.R Kd.string 9 w' w.heap.size (fun _ => True) v0_ r ∧ Below w.heap.size w w' := by
 have HB := Aside0.mk (Below.refl w.heap.size w)
 have H : ((spec_l1Split.f k a0 47).bind fun t113 => (some t113)) = some r := h
 clear h
 replace H := Option.bind_eq_some_iff.mp H
 obtain ⟨t113, A20, H⟩ := H
 replace H : (some t113) = some r := H
 have A2 := Aside0.mk A20
 clear A20
 obtain rfl := Option.some.inj H
 go_enter Tryd.func49, Tryd.ntmps49
 go_wp2_with (first | ((with_reducible refine gate_callee (f := 84) rfl ?_); refine goesL_ (some 4) rfl rfl Tryd.func84 (by kernel_rfl) rfl #[.string a0, .int .u8 47] rfl zM ?_; (with_reducible refine (spec_l1Split.calls k a0 47 t113 _ A2.out).mono ?_); rintro e w3 ⟨v114, rfl, ho0, hb⟩; refine ⟨_, rfl, ?_⟩; have HO115 := Aside0.mk (Kd.R_lower ho0 (below_size zB)); replace HB := zBb hb; (try clear hb); (try clear hb2); (try clear hk); (try clear hi); (try clear ho0)))
 go_ret
 exact ⟨_, zE, zR HO115, zB⟩

/-! ### spec_piTurn: function 28 -/
theorem ptCol_size (ps : List ByteArray) (x : Nat) : ∀ m a, (ptCol ps x m a).size ≤ a.size + m
 | 0, a => Nat.le_refl _
 | m + 1, a => by
  refine Nat.le_trans (ptCol_size ps x m _) ?_
  have : ((rdOf ByteArray.empty ps (m : Int)).extract x (x + 1)).size ≤ 1 := by
   rw [ByteArray.size_extract]; omega
  rw [ByteArray.size_append]; omega
theorem ptAcc_size (ps : List ByteArray) : ∀ x, (ptAcc ps x).size ≤ x * (ps.length + 1)
 | 0 => Nat.le_of_eq (by simp [ptAcc]; rfl)
 | x + 1 => by
  have h1 := ptAcc_size ps x
  rw [ptAcc, Nat.succ_mul]
  refine Nat.le_trans (ptCol_size ps x _ _) ?_
  split
  ·rw [ByteArray.size_append]; have : (⟨#[47]⟩ : ByteArray).size = 1 := rfl; omega
  ·omega
theorem rdOf_mem (ps : List ByteArray) (m : Nat) (h : m < ps.length) : rdOf ByteArray.empty ps (m : Int) ∈ ps := by
 have e : rdOf ByteArray.empty ps (m : Int) = ps[m] := by simp [rdOf, h]
 rw [e]; exact List.getElem_mem h
set_option maxHeartbeats 8000000 in
set_option maxRecDepth 100000 in
theorem pt_main (k : Nat) (s : ByteArray) (ps : List ByteArray) (s0 : ByteArray) (w : World) (hps : spec_piRows.f k s = some ps) (hs0 : rdOf ByteArray.empty ps 0 = s0) (hpl : 0 < ps.length ∧ ps.length ≤ 1000001) (hsz : ∀ q ∈ ps, q.size = s0.size) (hw : s0.size ≤ 1000000) (hA : ∀ b ∈ s0.data.toList, b.toNat < 128) :
  Calls Tryd.prog 28 #[.string s] w fun e w' => e = .returned (.string (ptAcc ps s0.size)) ∧ Below w.heap.size w w' := by
 have HPS := Aside0.mk hps
 have HA := Aside0.mk hA
 have H0 := Aside0.mk hs0
 have HN := Aside0.mk hpl
 have HSZ := Aside0.mk hsz
 have hp0 := hpl.1
 have hpy := hpl.2
 clear hps hA hs0 hpl hsz
 go_enter Tryd.func28, Tryd.ntmps28
 go_wp2_with (first
  | (go_at_call 49; (with_reducible refine (spec_piRows.calls k s ps w HPS.out).mono ?_); rintro e w1 ⟨v, rfl, ho, hb⟩; obtain ⟨A, c, rfl, hAc, hR⟩ := Kd.R_reads ho; obtain ⟨a0, rfl, h0⟩ := sh_at0 hR hp0; rw [H0.out] at h0; have HB := Aside0.mk hb; have HR := Aside0.mk ho; clear ho hb hR hAc))
 have HR0 : ∀ x, Aside0 (Kd.R Kd.string 9 (w1.iter s0 x) w.heap.size (fun _ => True) (.slice (some a0) ps.length c) ps) := fun x => ⟨Kd.R_alloc HR.out (.stringIter s0 x)⟩
 have HB0 : ∀ x, Aside0 (Below w.heap.size w (w1.iter s0 x)) := fun x => ⟨below_alloc HB.out (.stringIter s0 x)⟩
 have HS0 := HSZ.out
 go_loopg [4] s0.size (fun g v4 wx => ∃ x : Nat, x + g = s0.size ∧ v4 = .string (ptAcc ps x) ∧ wx = w1.iter s0 x)
 case atStart => exact ⟨0, by omega, by first | rfl | simp [ptAcc], rfl⟩
 case round =>
  clear h0
  obtain ⟨x, hxg, rfl, rfl⟩ := hrel
  cases gk with
  | zero =>
   obtain rfl : x = s0.size := by omega
   have hnx := fun ty => run_next_end (P := Tryd.prog) w1 s0 s0.size ty (Nat.lt_irrefl _)
   go_wp2
   go_ret
   exact ⟨rfl, (HB0 _).out⟩
  | succ g =>
   have hx : x < s0.size := by omega
   have ha : (s0[x]'hx).toNat < 128 := HA.out _ (by rw [Array.mem_toList_iff]; exact Array.getElem_mem _)
   have hnx := fun ty => run_next_ascii (P := Tryd.prog) w1 s0 x ty hx ha
   have HR1 := HR0 (x + 1)
   have hY := ptAcc_size ps x
   have hYm : x * (ps.length + 1) ≤ 1000000 * 1000002 := Nat.mul_le_mul (by omega) (by omega)
   have hE : Aside0 (ptCol ps x ps.length (if 0 < x then ptAcc ps x ++ ⟨#[47]⟩ else ptAcc ps x) = ptAcc ps (x + 1)) := ⟨by rw [ptAcc]⟩
   generalize ptAcc ps x = Y at hE hY ⊢
   have hq1 : ¬ 9223372036854775807 < Y.size + 1 := by omega
   have hY2 : Y.size ≤ 1000002000000 := by omega
   clear hYm hY
   have hi0 : (0 : Int) ≤ (ps.length : Int) - 1 := by omega
   have hi1 : (ps.length : Int) - 1 ≤ 1000001 := by omega
   by_cases c0 : 0 < x
   ·rw [if_pos c0] at hE
    go_wp2
    go_loopg [4, 6] ps.length (fun g v4 v6 wx => ∃ a : ByteArray, v4 = .string a ∧ g ≤ ps.length ∧ v6 = .int .i64 ((g : Int) - 1) ∧ Aside0 (ptCol ps x g a = ptAcc ps (x + 1)) ∧ a.size + g ≤ 2000000000000 ∧ wx = w1.iter s0 (x + 1))
    case atStart => exact ⟨_, rfl, Nat.le_refl _, rfl, hE, by rw [ByteArray.size_append]; have : (⟨#[47]⟩ : ByteArray).size = 1 := rfl; omega, rfl⟩
    case round =>
     clear hE hq1 hY2
     obtain ⟨a, rfl, hg, rfl, hE, hsz, rfl⟩ := hrel
     cases gk with
     | zero =>
      have hE1 := hE.out
      rw [ptCol] at hE1
      subst hE1
      go_wp2
      go_roundg g
      case measure => omega
      case rel => exact ⟨x + 1, by omega, rfl, rfl⟩
     | succ m =>
      have hm0 : (0 : Int) ≤ (m : Int) := Int.natCast_nonneg _
      have hm1 : (m : Int) < (ps.length : Int) := by omega
      have hmn : m < ps.length := by omega
      have e1 : (((m + 1 : Nat) : Int) - 1) = (m : Int) := by omega
      rw [e1]
      obtain ⟨ad, ead, hxr⟩ := Kd.at_string (Kd.R_reads' HR1.out).2.2 (m : Int) hm0 hm1
      cases ead
      rw [Int.toNat_natCast] at hxr
      have hE1 := hE.out
      rw [ptCol] at hE1
      have hqs : (rdOf ByteArray.empty ps (m : Int)).size = s0.size := HS0 _ (rdOf_mem ps m hmn)
      generalize rdOf ByteArray.empty ps (m : Int) = q at hxr hE1 hqs
      have hex : (q.extract x (x + 1)).size = 1 := by rw [ByteArray.size_extract]; omega
      have hE := Aside0.mk hE1
      clear hE1
      have g1 : (x : Int) + 1 ≤ (s0.size : Int) := by omega
      have g2 : (s0.size : Int) ≤ 1000000 := by omega
      have g3 : (0 : Int) ≤ (x : Int) := Int.natCast_nonneg _
      have g4 : ¬ 9223372036854775807 < a.size + (q.extract x (x + 1)).size := by omega
      have g5 : (x : Int) + 1 ≤ (q.size : Int) := by omega
      have g6 : (0 : Int) ≤ (x : Int) + 1 := by omega
      have g7 : ∀ W : World, (Instr.slice 9 (.string q) (some (.int .i64 (x : Int))) (some (.int .i64 ((x : Int) + 1))) none).run Tryd.prog W = .ok (.string (q.extract x (x + 1))) W := fun W => by
       have e7 : ((x : Int) + 1).toNat = x + 1 := by omega
       have := run_slice_string (P := Tryd.prog) (w := W) 9 q .i64 .i64 (x : Int) ((x : Int) + 1) (by kernel_rfl) g3 (by omega) g5
       rw [e7, Int.toNat_natCast] at this
       exact this
      go_wp2
      go_roundg m
      case measure => omega
      case rel => exact ⟨_, rfl, by omega, rfl, hE, by rw [ByteArray.size_append]; omega, rfl⟩
   ·rw [if_neg c0] at hE
    go_wp2
    go_loopg [4, 6] ps.length (fun g v4 v6 wx => ∃ a : ByteArray, v4 = .string a ∧ g ≤ ps.length ∧ v6 = .int .i64 ((g : Int) - 1) ∧ Aside0 (ptCol ps x g a = ptAcc ps (x + 1)) ∧ a.size + g ≤ 2000000000000 ∧ wx = w1.iter s0 (x + 1))
    case atStart => exact ⟨_, rfl, Nat.le_refl _, rfl, hE, by omega, rfl⟩
    case round =>
     clear hE hq1 hY2
     obtain ⟨a, rfl, hg, rfl, hE, hsz, rfl⟩ := hrel
     cases gk with
     | zero =>
      have hE1 := hE.out
      rw [ptCol] at hE1
      subst hE1
      go_wp2
      go_roundg g
      case measure => omega
      case rel => exact ⟨x + 1, by omega, rfl, rfl⟩
     | succ m =>
      have hm0 : (0 : Int) ≤ (m : Int) := Int.natCast_nonneg _
      have hm1 : (m : Int) < (ps.length : Int) := by omega
      have hmn : m < ps.length := by omega
      have e1 : (((m + 1 : Nat) : Int) - 1) = (m : Int) := by omega
      rw [e1]
      obtain ⟨ad, ead, hxr⟩ := Kd.at_string (Kd.R_reads' HR1.out).2.2 (m : Int) hm0 hm1
      cases ead
      rw [Int.toNat_natCast] at hxr
      have hE1 := hE.out
      rw [ptCol] at hE1
      have hqs : (rdOf ByteArray.empty ps (m : Int)).size = s0.size := HS0 _ (rdOf_mem ps m hmn)
      generalize rdOf ByteArray.empty ps (m : Int) = q at hxr hE1 hqs
      have hex : (q.extract x (x + 1)).size = 1 := by rw [ByteArray.size_extract]; omega
      have hE := Aside0.mk hE1
      clear hE1
      have g1 : (x : Int) + 1 ≤ (s0.size : Int) := by omega
      have g2 : (s0.size : Int) ≤ 1000000 := by omega
      have g3 : (0 : Int) ≤ (x : Int) := Int.natCast_nonneg _
      have g4 : ¬ 9223372036854775807 < a.size + (q.extract x (x + 1)).size := by omega
      have g5 : (x : Int) + 1 ≤ (q.size : Int) := by omega
      have g6 : (0 : Int) ≤ (x : Int) + 1 := by omega
      have g7 : ∀ W : World, (Instr.slice 9 (.string q) (some (.int .i64 (x : Int))) (some (.int .i64 ((x : Int) + 1))) none).run Tryd.prog W = .ok (.string (q.extract x (x + 1))) W := fun W => by
       have e7 : ((x : Int) + 1).toNat = x + 1 := by omega
       have := run_slice_string (P := Tryd.prog) (w := W) 9 q .i64 .i64 (x : Int) ((x : Int) + 1) (by kernel_rfl) g3 (by omega) g5
       rw [e7, Int.toNat_natCast] at this
       exact this
      go_wp2
      go_roundg m
      case measure => omega
      case rel => exact ⟨_, rfl, by omega, rfl, hE, by rw [ByteArray.size_append]; omega, rfl⟩
theorem spec_piTurn.calls (k : Nat) (a0 r : ByteArray) (w : World) (h : spec_piTurn.f k a0 = some r) :
  Calls Tryd.prog 28 #[.string a0] w fun e w' => e = .returned (.string r) ∧ Below w.heap.size w w' := by
 unfold spec_piTurn.f at h
 obtain ⟨ps, hps, h⟩ := Option.bind_eq_some_iff.mp h
 unfold ptF at h
 by_cases hc : (0 < ps.length ∧ ps.length ≤ 1000001) ∧ (∀ r ∈ ps, r.size = (rdOf ByteArray.empty ps 0).size) ∧ (rdOf ByteArray.empty ps 0).size ≤ 1000000 ∧ (∀ b ∈ (rdOf ByteArray.empty ps 0).data.toList, b.toNat < 128)
 ·rw [if_pos hc] at h
  obtain ⟨h1, h2, h3, h4⟩ := hc
  obtain rfl := Option.some.inj h
  exact pt_main k a0 ps _ w hps rfl h1 h2 h3 h4
 ·rw [if_neg hc] at h; cases h

/-! ### spec_piMirror: function 65 -/
set_option maxHeartbeats 8000000 in
set_option maxRecDepth 100000 in
theorem spec_piMirror.calls (k : Nat) (a0 : ByteArray) (r : ByteArray) (w : World) (h : spec_piMirror.f k a0 = some r) :
  Calls Tryd.prog 65 #[.string a0] w fun e w' => e = .returned (.string r) ∧ Below w.heap.size w w' := by
 have HB := Aside0.mk (Below.refl w.heap.size w)
 have H : ((spec_piRows.f k a0).bind fun t116 => (spec_piMirror.l0 k (⟨#[]⟩ : ByteArray) t116 (t116.length : Int) 0)) = some r := h
 clear h
 replace H := Option.bind_eq_some_iff.mp H
 obtain ⟨t116, A20, H⟩ := H
 replace H : (spec_piMirror.l0 k (⟨#[]⟩ : ByteArray) t116 (t116.length : Int) 0) = some r := H
 have A2 := Aside0.mk A20
 clear A20
 have H' := Aside0.mk H
 clear H
 go_enter Tryd.func65, Tryd.ntmps65
 go_wp2_with (first | ((with_reducible refine gate_callee (f := 49) rfl ?_); refine goesL_ (some 8) rfl rfl Tryd.func49 (by kernel_rfl) rfl #[.string a0] rfl zM ?_; (with_reducible refine (spec_piRows.calls k a0 t116 _ A2.out).mono ?_); rintro e w3 ⟨v117, rfl, ho0, hb⟩; refine ⟨_, rfl, ?_⟩; have HO118 := Aside0.mk (Kd.R_lower ho0 (below_size zB)); replace HB := zBb hb; (try clear hb); (try clear hb2); (try clear hk); (try clear hi); (try clear ho0); obtain ⟨Ao4, co4, eo4⟩ := Kd.R_slice HO118.out; subst eo4))
 go_loopg [3, 10] k (fun kq v3 v10 w' => ∃ (x3_1 : ByteArray) (x10_1 : Int), v3 = .string x3_1 ∧ v10 = .int .i64 x10_1 ∧ Aside0 (spec_piMirror.l0 kq x3_1 t116 (t116.length : Int) x10_1 = some r) ∧ Aside0 (kq ≤ k) ∧ Aside0 (Kd.R Kd.string 9 w' w.heap.size (fun _ => True) (.slice Ao4 t116.length co4) t116) ∧ Aside0 (Below w.heap.size w w'))
 case atStart => exact ⟨((⟨#[]⟩ : ByteArray)), (0), zA, zA, H', ⟨Nat.le_refl _⟩, ⟨zR HO118⟩, ⟨zB⟩⟩
 case round =>
  clear H'
  (try clear p2); (try clear c4)
  obtain ⟨x3_1, x10_1, rfl, rfl, HA, HK1, HO_8, HB⟩ := hrel
  cases gk with
  | zero => exact absurd HA.out (by simp [spec_piMirror.l0])
  | succ k1 =>
   have H := HA.out
   clear HA
   simp only [spec_piMirror.l0] at H
   by_cases c5 : x10_1 < (t116.length : Int)
   ·rw [if_pos c5] at H
    have c5b0 : decide (x10_1 < (t116.length : Int)) = true := decide_eq_true c5
    clear c5
    by_cases c6 : 0 ≤ x10_1
    ·rw [if_pos c6] at H
     have c6b0 : decide (0 ≤ x10_1) = true := decide_eq_true c6
     clear c6
     by_cases c7 : x10_1 < (t116.length : Int)
     ·rw [if_pos c7] at H
      have c7b0 : decide (x10_1 < (t116.length : Int)) = true := decide_eq_true c7
      clear c7
      have HC8 := Aside0.mk H
      clear H
      have p119 : 0 ≤ (x10_1 : Int) := of_decide_eq_true (by assumption)
      have q119 : x10_1 < (t116.length : Int) := of_decide_eq_true (by assumption)
      obtain ⟨ad119, e119, hx119_0⟩ := Kd.at_string (Kd.R_reads' HO_8.out).2.2 x10_1 p119 q119
      cases e119
      replace p119 := eq_true p119
      replace q119 := eq_true q119
      go_upto_if 16 with (fail)
      go_cut [3] (fun v3 wc => ∃ (kq : Nat) (x3_7 : ByteArray), v3 = .string x3_7 ∧ Aside0 (spec_piMirror.j1 kq x3_7 (rdOf ByteArray.empty t116 x10_1) t116 (t116.length : Int) x10_1 = some r) ∧ Aside0 (kq ≤ k1) ∧ Aside0 (Kd.R Kd.string 9 wc w.heap.size (fun _ => True) (.slice (some ad119) t116.length co4) t116) ∧ Aside0 (Below w.heap.size w wc))
      case first =>
       have H := HC8.out
       clear HC8
       by_cases c9 : x10_1 > 0
       ·rw [if_pos c9] at H
        have c9b0 : decide (0 < x10_1) = true := decide_eq_true c9
        clear c9
        (first | rw [c9b0] | (simp only [i64_w, i32_w]; rw [c9b0]) | skip)
        by_cases c10 : x3_1.size + 1 ≤ 9223372036854775807
        ·rw [if_pos c10] at H
         have c10b0 := eq_true c10
         have c10b1 : decide (x3_1.size + 1 ≤ 9223372036854775807) = true := decide_eq_true c10
         try have c10b2 : (9223372036854775807 < x3_1.size + 1) = False := eq_false (Nat.not_lt.2 c10)
         have H' := Aside0.mk H
         clear H
         go_wp2
         go_meet
         case rel => exact ⟨_, (x3_1 ++ (⟨#[47]⟩ : ByteArray)), zA, H', ⟨by have := HK1.out; first | omega | exact Nat.le_refl _⟩, ⟨zR HO_8⟩, ⟨zB⟩⟩
        ·rw [if_neg c10] at H
         exact absurd H (by simp)
       ·rw [if_neg c9] at H
        have c9b0 : decide (0 < x10_1) = false := decide_eq_false c9
        clear c9
        (first | rw [c9b0] | (simp only [i64_w, i32_w]; rw [c9b0]) | skip)
        have H' := Aside0.mk H
        clear H
        go_wp2
        go_meet
        case rel => exact ⟨_, (x3_1), zA, H', ⟨by have := HK1.out; first | omega | exact Nat.le_refl _⟩, ⟨zR HO_8⟩, ⟨zB⟩⟩
      case rest =>
       clear HC8
       (try clear c1); (try clear p1); (try clear q1); (try clear hx1); (try clear p2); (try clear c4); (try clear c5); (try clear c5b0); (try clear c6); (try clear c6b0); (try clear c7); (try clear c7b0); (try clear c9); (try clear c9b0); (try clear c10); (try clear c10b0); (try clear c10b1); (try clear c10b2); (try clear hx119_0); (try clear p119); (try clear p2); (try clear q119)
       obtain ⟨kq, x3_7, rfl, HA, HJ7, HO_8, HB⟩ := hcut
       cases kq with
       | zero => exact absurd HA.out (by simp [spec_piMirror.j1])
       | succ kj7 =>
        have H := HA.out
        clear HA
        simp only [spec_piMirror.j1] at H
        have H' := Aside0.mk H
        clear H
        go_wp2
        go_loopg [3, 6] kj7 (fun kq v3 v6 w' => ∃ (x3_3 : ByteArray) (x6_3 : Int), v3 = .string x3_3 ∧ v6 = .int .i64 x6_3 ∧ Aside0 (spec_piMirror.l1 kq x3_3 (rdOf ByteArray.empty t116 x10_1) x6_3 t116 (t116.length : Int) x10_1 = some r) ∧ Aside0 (kq ≤ kj7) ∧ Aside0 (Kd.R Kd.string 9 w' w.heap.size (fun _ => True) (.slice (some ad119) t116.length co4) t116) ∧ Aside0 (Below w.heap.size w w'))
        case atStart => exact ⟨(x3_7), (wrap64 (((rdOf ByteArray.empty t116 x10_1).size : Int) - 1)), zA, zA, H', ⟨Nat.le_refl _⟩, ⟨zR HO_8⟩, ⟨zB⟩⟩
        case round =>
         clear H'
         (try clear c1); (try clear p1); (try clear q1); (try clear hx1); (try clear p2); (try clear c4); (try clear c5); (try clear c5b0); (try clear c6); (try clear c6b0); (try clear p6); (try clear c7); (try clear c7b0); (try clear c9); (try clear c9b0); (try clear c10); (try clear c10b0); (try clear c10b1); (try clear c10b2); (try clear hx119_0); (try clear p1); (try clear p119); (try clear p2); (try clear q1); (try clear q119)
         obtain ⟨x3_3, x6_3, rfl, rfl, HA, HK3, HO_8, HB⟩ := hrel
         cases gk with
         | zero => exact absurd HA.out (by simp [spec_piMirror.l1])
         | succ k3 =>
          have H := HA.out
          clear HA
          simp only [spec_piMirror.l1] at H
          by_cases c11 : x6_3 ≥ 0
          ·rw [if_pos c11] at H
           have c11b0 : decide (0 ≤ x6_3) = true := decide_eq_true c11
           clear c11
           by_cases c12 : 0 ≤ x6_3
           ·rw [if_pos c12] at H
            have c12b0 := eq_true c12
            have c12b1 : decide (0 ≤ x6_3) = true := decide_eq_true c12
            clear c12
            by_cases c13 : x6_3 ≤ (wrap64 (x6_3 + 1))
            ·rw [if_pos c13] at H
             have c13b0 := eq_true c13
             have c13b1 : decide (x6_3 ≤ (wrap64 (x6_3 + 1))) = true := decide_eq_true c13
             by_cases c14 : (wrap64 (x6_3 + 1)) ≤ ((rdOf ByteArray.empty t116 x10_1).size : Int)
             ·rw [if_pos c14] at H
              have c14b0 := eq_true c14
              have c14b1 : decide ((wrap64 (x6_3 + 1)) ≤ ((rdOf ByteArray.empty t116 x10_1).size : Int)) = true := decide_eq_true c14
              by_cases c15 : x3_3.size + ((rdOf ByteArray.empty t116 x10_1).extract (x6_3 : Int).toNat ((wrap64 (x6_3 + 1)) : Int).toNat).size ≤ 9223372036854775807
              ·rw [if_pos c15] at H
               have c15b0 := eq_true c15
               have c15b1 : decide (x3_3.size + ((rdOf ByteArray.empty t116 x10_1).extract (x6_3 : Int).toNat ((wrap64 (x6_3 + 1)) : Int).toNat).size ≤ 9223372036854775807) = true := decide_eq_true c15
               try have c15b2 : (9223372036854775807 < x3_3.size + ((rdOf ByteArray.empty t116 x10_1).extract (x6_3 : Int).toNat ((wrap64 (x6_3 + 1)) : Int).toNat).size) = False := eq_false (Nat.not_lt.2 c15)
               have H' := Aside0.mk H
               clear H
               go_wp2
               go_roundg k3
               case measure => have := HK1.out; have := HJ7.out; have := HK3.out; omega
               case rel => exact ⟨(x3_3 ++ ((rdOf ByteArray.empty t116 x10_1).extract (x6_3 : Int).toNat ((wrap64 (x6_3 + 1)) : Int).toNat)), (wrap64 (x6_3 - 1)), zA, zA, H', ⟨by have := HK1.out; have := HJ7.out; have := HK3.out; omega⟩, ⟨zR HO_8⟩, ⟨zB⟩⟩
              ·rw [if_neg c15] at H
               exact absurd H (by simp)
             ·rw [if_neg c14] at H
              exact absurd H (by simp)
            ·rw [if_neg c13] at H
             exact absurd H (by simp)
           ·rw [if_neg c12] at H
            exact absurd H (by simp)
          ·rw [if_neg c11] at H
           have c11b0 : decide (0 ≤ x6_3) = false := decide_eq_false c11
           clear c11
           have H' := Aside0.mk H
           clear H
           go_wp2
           go_roundg k3
           case measure => have := HK1.out; have := HJ7.out; have := HK3.out; omega
           case rel => exact ⟨(x3_3), (wrap64 (x10_1 + 1)), zA, zA, H', ⟨by have := HK1.out; have := HJ7.out; have := HK3.out; omega⟩, ⟨zR HO_8⟩, ⟨zB⟩⟩
     ·rw [if_neg c7] at H
      exact absurd H (by simp)
    ·rw [if_neg c6] at H
     exact absurd H (by simp)
   ·rw [if_neg c5] at H
    have c5b0 : decide (x10_1 < (t116.length : Int)) = false := decide_eq_false c5
    clear c5
    obtain rfl := Option.some.inj H
    go_wp2
    go_ret
    exact ⟨zE, zB⟩

/-! ### spec_piMin: function 64 -/
set_option maxHeartbeats 8000000 in
set_option maxRecDepth 100000 in
theorem spec_piMin.calls (a0 : ByteArray) (a1 : ByteArray) (r : ByteArray) (w : World) (h : spec_piMin.f a0 a1 = some r) :
  Calls Tryd.prog 64 #[.string a0, .string a1] w fun e w' => e = .returned (.string r) ∧ Drawn0 w w' := by
 have H : (if (Op.bytesLess a1.toList a0.toList) = true then (some a1) else (some a0)) = some r := h
 clear h
 by_cases c3 : (Op.bytesLess a1.toList a0.toList) = true
 ·rw [if_pos c3] at H
  have c3b0 : (Op.bytesLess a1.toList a0.toList) = true := c3
  clear c3
  obtain rfl := Option.some.inj H
  go_enter Tryd.func64, Tryd.ntmps64
  go_wp2
  go_ret
  exact ⟨by first | rfl | (simp; done) | (simp [*]; done), by repeat (first | exact Drawn0.refl _ | apply Drawn0.step)⟩
 ·rw [if_neg c3] at H
  have c3b0 : (Op.bytesLess a1.toList a0.toList) = false := by simpa using c3
  clear c3
  obtain rfl := Option.some.inj H
  go_enter Tryd.func64, Tryd.ntmps64
  go_wp2
  go_ret
  exact ⟨by first | rfl | (simp; done) | (simp [*]; done), by repeat (first | exact Drawn0.refl _ | apply Drawn0.step)⟩

/-! ### spec_piLeast: function 30 -/
set_option maxHeartbeats 8000000 in
set_option maxRecDepth 100000 in
theorem spec_piLeast.calls (k : Nat) (a0 : ByteArray) (r : ByteArray) (w : World) (h : spec_piLeast.f k a0 = some r) :
  Calls Tryd.prog 30 #[.string a0] w fun e w' => e = .returned (.string r) ∧ Below w.heap.size w w' := by
 have HB := Aside0.mk (Below.refl w.heap.size w)
 have H : (spec_piLeast.l0 k a0 a0 0) = some r := h
 clear h
 have H' := Aside0.mk H
 clear H
 go_enter Tryd.func30, Tryd.ntmps30
 go_wp2
 go_loopg [0, 3, 4] k (fun kq v0 v3 v4 w' => ∃ (x0_1 : ByteArray) (x3_1 : ByteArray) (x4_1 : Int), v0 = .string x0_1 ∧ v3 = .string x3_1 ∧ v4 = .int .i64 x4_1 ∧ Aside0 (spec_piLeast.l0 kq x0_1 x3_1 x4_1 = some r) ∧ Aside0 (kq ≤ k) ∧ Aside0 (Below w.heap.size w w'))
 case atStart => exact ⟨(a0), (a0), (0), zA, zA, zA, H', ⟨Nat.le_refl _⟩, ⟨zB⟩⟩
 case round =>
  clear H'
  obtain ⟨x0_1, x3_1, x4_1, rfl, rfl, rfl, HA, HK1, HB⟩ := hrel
  cases gk with
  | zero => exact absurd HA.out (by simp [spec_piLeast.l0])
  | succ k1 =>
   have H := HA.out
   clear HA
   simp only [spec_piLeast.l0] at H
   by_cases c2 : x4_1 < 4
   ·rw [if_pos c2] at H
    have c2b0 : decide (x4_1 < 4) = true := decide_eq_true c2
    clear c2
    replace H := Option.bind_eq_some_iff.mp H
    obtain ⟨t120, A30, H⟩ := H
    replace H : ((spec_piMin.f x0_1 t120).bind fun t121 => ((spec_piMin.f x3_1 t121).bind fun t122 => ((spec_piTurn.f k1 x0_1).bind fun t123 => (spec_piLeast.l0 k1 t123 t122 (wrap64 (x4_1 + 1)))))) = some r := H
    have A3 := Aside0.mk A30
    clear A30
    replace H := Option.bind_eq_some_iff.mp H
    obtain ⟨t121, A40, H⟩ := H
    replace H : ((spec_piMin.f x3_1 t121).bind fun t122 => ((spec_piTurn.f k1 x0_1).bind fun t123 => (spec_piLeast.l0 k1 t123 t122 (wrap64 (x4_1 + 1))))) = some r := H
    have A4 := Aside0.mk A40
    clear A40
    replace H := Option.bind_eq_some_iff.mp H
    obtain ⟨t122, A50, H⟩ := H
    replace H : ((spec_piTurn.f k1 x0_1).bind fun t123 => (spec_piLeast.l0 k1 t123 t122 (wrap64 (x4_1 + 1)))) = some r := H
    have A5 := Aside0.mk A50
    clear A50
    replace H := Option.bind_eq_some_iff.mp H
    obtain ⟨t123, A60, H⟩ := H
    replace H : (spec_piLeast.l0 k1 t123 t122 (wrap64 (x4_1 + 1))) = some r := H
    have A6 := Aside0.mk A60
    clear A60
    have H' := Aside0.mk H
    clear H
    go_wp2_with (first | ((with_reducible refine gate_callee (f := 65) rfl ?_); refine goesL_ (some 13) rfl rfl Tryd.func65 (by kernel_rfl) rfl #[.string x0_1] rfl zM ?_; (with_reducible refine (spec_piMirror.calls k1 x0_1 t120 _ A3.out).mono ?_); rintro e w7 ⟨rfl, hb⟩; refine ⟨_, rfl, ?_⟩; replace HB := zBb hb; (try clear hb); (try clear hb2); (try clear hk); (try clear hi)) | ((with_reducible refine gate_callee (f := 64) rfl ?_); refine goesL_ (some 14) rfl rfl Tryd.func64 (by kernel_rfl) rfl #[.string x0_1, .string t120] rfl zM ?_; (with_reducible refine (spec_piMin.calls x0_1 t120 t121 _ A4.out).mono ?_); rintro e w' ⟨rfl, ⟨nd, rfl⟩⟩; refine ⟨_, rfl, ?_⟩) | ((with_reducible refine gate_callee (f := 64) rfl ?_); refine goesL_ (some 15) rfl rfl Tryd.func64 (by kernel_rfl) rfl #[.string x3_1, .string t121] rfl zM ?_; (with_reducible refine (spec_piMin.calls x3_1 t121 t122 _ A5.out).mono ?_); rintro e w' ⟨rfl, ⟨nd, rfl⟩⟩; refine ⟨_, rfl, ?_⟩) | ((with_reducible refine gate_callee (f := 28) rfl ?_); refine goesL_ (some 17) rfl rfl Tryd.func28 (by kernel_rfl) rfl #[.string x0_1] rfl zM ?_; (with_reducible refine (spec_piTurn.calls k1 x0_1 t123 _ A6.out).mono ?_); rintro e w8 ⟨rfl, hb⟩; refine ⟨_, rfl, ?_⟩; replace HB := zBb hb; (try clear hb); (try clear hb2); (try clear hk); (try clear hi)))
    go_roundg k1
    case measure => have := HK1.out; omega
    case rel => exact ⟨(t123), (t122), (wrap64 (x4_1 + 1)), zA, zA, zA, H', ⟨by have := HK1.out; omega⟩, ⟨zB⟩⟩
   ·rw [if_neg c2] at H
    have c2b0 : decide (x4_1 < 4) = false := decide_eq_false c2
    clear c2
    obtain rfl := Option.some.inj H
    go_wp2
    go_ret
    exact ⟨zE, zB⟩

/-! ### impl_Figure_grid: function 40 -/
set_option maxHeartbeats 8000000 in
set_option maxRecDepth 100000 in
theorem impl_Figure_grid.calls (a0_0 : Int) (a0_1 : Int) (A0_2 : Option Addr) (c0_2 : Nat) (l0_2 : List Int) (A0_3 : Option Addr) (c0_3 : Nat) (l0_3 : List Int) (r1 : Int) (r2 : Int) (w : World) (hr0_2 : Kd.C (Kd.int .i64) w A0_2 l0_2.length l0_2) (hc0_2 : l0_2.length ≤ c0_2) (hr0_3 : Kd.C (Kd.int .i64) w A0_3 l0_3.length l0_3) (hc0_3 : l0_3.length ≤ c0_3) (h : impl_Figure_grid.f a0_0 a0_1 l0_2 l0_3 = some (r1, r2)) :
  Calls Tryd.prog 40 #[.agg #[.int .i64 a0_0, .int .i64 a0_1, .slice A0_2 l0_2.length c0_2, .slice A0_3 l0_3.length c0_3]] w fun e w' => e = .returned (.agg #[.int .i64 r1, .int .i64 r2]) ∧ Below w.heap.size w w' := by
 have hu30 := Tryd.underlying30
 have hu58 := Tryd.underlying58
 have HR0_2 := Aside0.mk hr0_2
 have HC0_2 := Aside0.mk hc0_2
 clear hr0_2 hc0_2
 have HR0_3 := Aside0.mk hr0_3
 have HC0_3 := Aside0.mk hc0_3
 clear hr0_3 hc0_3
 have HB := Aside0.mk (Below.refl w.heap.size w)
 have H : (some (a0_0, a0_1)) = some (r1, r2) := h
 clear h
 simp only [Option.some.injEq, Prod.mk.injEq] at H
 obtain ⟨rfl, rfl⟩ := H
 go_enter Tryd.func40, Tryd.ntmps40
 go_wp2_with (first | ((with_reducible refine gate_dst (N := 1) rfl ?_); refine zbx 1 #[.int .i64 a0_0, .int .i64 a0_1, .slice A0_2 l0_2.length c0_2, .slice A0_3 l0_3.length c0_3] 30 ?_; intro gb124 hg w2 hbox hb; have BK124 := Aside0.mk (hbox); have GW124 := zGe hg; have GE124 := zGe hg; replace HB := zBb hb; clear hb hbox hg) | ((with_reducible refine gate_dst (N := 2) rfl ?_); refine zbx 2 #[.int .i64 0, .int .i64 0] 58 ?_; intro gb125 hg w3 hbox hb; have BK125 := Aside0.mk (hbox); have GW125 := zGe hg; have GE125 := zGe hg; have NB124_125 := zNl BK124 hg; have NB125_124 := zNg BK124 hg; replace BK124 := zKb BK124 hb; replace HB := zBb hb; clear hb hbox hg; have hnb4 := NB124_125.out; have hnc4 := NB125_124.out; obtain ⟨hcz5_0, hcz5_1, hcz5_2, hcz5_3, hfz5_0, hfz5_1, hfz5_2, hfz5_3⟩ := blk4 BK124; obtain ⟨hcz6_0, hcz6_1, hfz6_0, hfz6_1⟩ := blk2 BK125))
 refine bodyPost_ret (results_cell_row rfl _ _ gb125 58 #[.int .i64 a0_0, .int .i64 a0_1] (0, 0) _ rfl (by (with_reducible repeat (first | refine blk_drewN ?_ _ | refine blk_drew ?_ | refine blk_alloc ?_ _)); refine blk_put (cs := #[.int .i64 a0_0, .int .i64 0]) ?_ 1 _ rfl; (with_reducible repeat (first | refine blk_drewN ?_ _ | refine blk_drew ?_ | refine blk_alloc ?_ _)); refine blk_put (cs := #[.int .i64 0, .int .i64 0]) ?_ 0 _ rfl; (with_reducible repeat (first | refine blk_drewN ?_ _ | refine blk_drew ?_ | refine blk_alloc ?_ _)); exact BK125.out) Tryd.underlying58 rfl (by kernel_rfl)) rfl ?_
 exact ⟨zE, zB⟩

/-! ### impl_grid_levels: function 78 -/
set_option maxHeartbeats 8000000 in
set_option maxRecDepth 100000 in
theorem impl_grid_levels.calls (a0_0 : Int) (a0_1 : Int) (r : Int) (w : World) (h : impl_grid_levels.f a0_0 a0_1 = some r) :
  Calls Tryd.prog 78 #[.agg #[.int .i64 a0_0, .int .i64 a0_1]] w fun e w' => e = .returned (.int .i64 r) ∧ Below w.heap.size w w' := by
 have hu58 := Tryd.underlying58
 have HB := Aside0.mk (Below.refl w.heap.size w)
 have H : (some (wrap64 (a0_0 * (wrap64 (a0_1 + 1))))) = some r := h
 clear h
 obtain rfl := Option.some.inj H
 go_enter Tryd.func78, Tryd.ntmps78
 go_wp2_with (first | ((with_reducible refine gate_dst (N := 1) rfl ?_); refine zbx 1 #[.int .i64 a0_0, .int .i64 a0_1] 58 ?_; intro gb126 hg w2 hbox hb; have BK126 := Aside0.mk (hbox); have GW126 := zGe hg; have GE126 := zGe hg; replace HB := zBb hb; clear hb hbox hg; obtain ⟨hcz3_0, hcz3_1, hfz3_0, hfz3_1⟩ := blk2 BK126))
 go_ret
 exact ⟨zE, zB⟩

/-! ### impl_Figure_set: function 42 -/
set_option maxHeartbeats 8000000 in
set_option maxRecDepth 100000 in
theorem impl_Figure_set.calls (k : Nat) (a0_0 : Int) (a0_1 : Int) (A0_2 : Option Addr) (c0_2 : Nat) (l0_2 : List Int) (A0_3 : Option Addr) (c0_3 : Nat) (l0_3 : List Int) (r : Int) (w : World) (hr0_2 : Kd.C (Kd.int .i64) w A0_2 l0_2.length l0_2) (hc0_2 : l0_2.length ≤ c0_2) (hr0_3 : Kd.C (Kd.int .i64) w A0_3 l0_3.length l0_3) (hc0_3 : l0_3.length ≤ c0_3) (h : impl_Figure_set.f k a0_0 a0_1 l0_2 l0_3 = some r) :
  Calls Tryd.prog 42 #[.agg #[.int .i64 a0_0, .int .i64 a0_1, .slice A0_2 l0_2.length c0_2, .slice A0_3 l0_3.length c0_3]] w fun e w' => e = .returned (.int .u64 r) ∧ Below w.heap.size w w' := by
 have hu30 := Tryd.underlying30
 have HR0_2 := Aside0.mk hr0_2
 have HC0_2 := Aside0.mk hc0_2
 clear hr0_2 hc0_2
 have HR0_3 := Aside0.mk hr0_3
 have HC0_3 := Aside0.mk hc0_3
 clear hr0_3 hc0_3
 have HB := Aside0.mk (Below.refl w.heap.size w)
 have H : (impl_Figure_set.l0 k 0 l0_2 (l0_2.length : Int) 0 a0_0 a0_1 l0_2 l0_3) = some r := h
 clear h
 have H' := Aside0.mk H
 clear H
 go_enter Tryd.func42, Tryd.ntmps42
 go_wp2_with (first | ((with_reducible refine gate_dst (N := 1) rfl ?_); refine zbx 1 #[.int .i64 a0_0, .int .i64 a0_1, .slice A0_2 l0_2.length c0_2, .slice A0_3 l0_3.length c0_3] 30 ?_; intro gb127 hg w2 hbox hb; have BK127 := Aside0.mk (hbox); have GW127 := zGe hg; have GE127 := zGe hg; replace HB := zBb hb; clear hb hbox hg; obtain ⟨hcz3_0, hcz3_1, hcz3_2, hcz3_3, hfz3_0, hfz3_1, hfz3_2, hfz3_3⟩ := blk4 BK127))
 go_loopg [3, 11] k (fun kq v3 v11 w' => ∃ (x3_1 : Int) (x11_1 : Int), v3 = .int .u64 x3_1 ∧ v11 = .int .i64 x11_1 ∧ Aside0 (impl_Figure_set.l0 kq x3_1 l0_2 (l0_2.length : Int) x11_1 a0_0 a0_1 l0_2 l0_3 = some r) ∧ Aside0 (kq ≤ k) ∧ Aside0 (w'.heap[gb127]? = some (.cells #[.int .i64 a0_0, .int .i64 a0_1, (.slice A0_2 l0_2.length c0_2), (.slice A0_3 l0_3.length c0_3)] 30 (0, 0))) ∧ Aside0 (Below w.heap.size w w'))
 case atStart => exact ⟨(0), (0), zA, zA, H', ⟨Nat.le_refl _⟩, ⟨zK BK127⟩, ⟨zB⟩⟩
 case round =>
  clear H'
  (try clear p2); (try clear hcz3_0); (try clear hcz3_1); (try clear hcz3_2); (try clear hcz3_3); (try clear hfz3_0); (try clear hfz3_1); (try clear hfz3_2); (try clear hfz3_3)
  obtain ⟨x3_1, x11_1, rfl, rfl, HA, HK1, BK127, HB⟩ := hrel
  cases gk with
  | zero => exact absurd HA.out (by simp [impl_Figure_set.l0])
  | succ k1 =>
   have H := HA.out
   clear HA
   simp only [impl_Figure_set.l0] at H
   by_cases c4 : x11_1 < (l0_2.length : Int)
   ·rw [if_pos c4] at H
    have c4b0 : decide (x11_1 < (l0_2.length : Int)) = true := decide_eq_true c4
    clear c4
    by_cases c5 : 0 ≤ x11_1
    ·rw [if_pos c5] at H
     have c5b0 : decide (0 ≤ x11_1) = true := decide_eq_true c5
     clear c5
     by_cases c6 : x11_1 < (l0_2.length : Int)
     ·rw [if_pos c6] at H
      have c6b0 : decide (x11_1 < (l0_2.length : Int)) = true := decide_eq_true c6
      clear c6
      by_cases c7 : 0 ≤ (rd l0_2 x11_1)
      ·rw [if_pos c7] at H
       have c7b0 := eq_true c7
       have c7b1 : decide (0 ≤ (rd l0_2 x11_1)) = true := decide_eq_true c7
       clear c7
       obtain ⟨ji8, hji8⟩ : ∃ j_ : Int, (shl .u64 1 (rd l0_2 x11_1)) = j_ := ⟨_, rfl⟩
       replace H : (impl_Figure_set.l0 k1 (Go.bits .or .u64 x3_1 (ji8)) l0_2 (l0_2.length : Int) (wrap64 (x11_1 + 1)) a0_0 a0_1 l0_2 l0_3) = some r := by first | (rw [hji8] at H; exact H) | (simp only [hji8] at H ⊢; exact H)
       have hji8_ : (IntKind.u64.wrap (1 * 2 ^ min (rd l0_2 x11_1).toNat 64)) = ji8 := hji8
       have hji8z : (rd l0_2 x11_1) ≤ 64 → (IntKind.u64.wrap (1 * 2 ^ (rd l0_2 x11_1).toNat)) = ji8 := shl_small hji8
       have hji8u : (IntKind.u64.wrap (2 ^ min (rd l0_2 x11_1).toNat 64)) = ji8 := by have h_ := hji8_; rw [Int.one_mul] at h_; exact h_
       have hji8v : (rd l0_2 x11_1) ≤ 64 → (IntKind.u64.wrap (2 ^ (rd l0_2 x11_1).toNat)) = ji8 := fun hle_ => by have h_ := hji8z hle_; rw [Int.one_mul] at h_; exact h_
       have H' := Aside0.mk H
       clear H
       have p128 : 0 ≤ (x11_1 : Int) := of_decide_eq_true (by assumption)
       have q128 : x11_1 < (l0_2.length : Int) := of_decide_eq_true (by assumption)
       obtain ⟨ad128, e128, hx128_0⟩ := Kd.at_int HR0_2.out x11_1 p128 q128
       cases e128
       replace hx128_0 := (HB.out.cell (World.block_lt_of_cell? w _ hx128_0)).trans hx128_0
       replace p128 := eq_true p128
       replace q128 := eq_true q128
       go_wp2
       go_roundg k1
       case measure => have := HK1.out; omega
       case rel => exact ⟨(Go.bits .or .u64 x3_1 (ji8)), (wrap64 (x11_1 + 1)), (by first | rfl | (simp; done) | (simp only [← hji8] <;> (first | rfl | simp)) | (simp [*]; done)), zA, H', ⟨by have := HK1.out; omega⟩, ⟨zK BK127⟩, ⟨zB⟩⟩
      ·rw [if_neg c7] at H
       exact absurd H (by simp)
     ·rw [if_neg c6] at H
      exact absurd H (by simp)
    ·rw [if_neg c5] at H
     exact absurd H (by simp)
   ·rw [if_neg c4] at H
    have c4b0 : decide (x11_1 < (l0_2.length : Int)) = false := decide_eq_false c4
    clear c4
    have H' := Aside0.mk H
    clear H
    obtain ⟨hcz9_0, hcz9_1, hcz9_2, hcz9_3, hfz9_0, hfz9_1, hfz9_2, hfz9_3⟩ := blk4 BK127
    go_wp2
    go_loopg [3, 23] k1 (fun kq v3 v23 w' => ∃ (x3_2 : Int) (x23_2 : Int), v3 = .int .u64 x3_2 ∧ v23 = .int .i64 x23_2 ∧ Aside0 (impl_Figure_set.l1 kq x3_2 l0_3 (l0_3.length : Int) x23_2 a0_0 a0_1 l0_2 l0_3 = some r) ∧ Aside0 (kq ≤ k1) ∧ Aside0 (w'.heap[gb127]? = some (.cells #[.int .i64 a0_0, .int .i64 a0_1, (.slice A0_2 l0_2.length c0_2), (.slice A0_3 l0_3.length c0_3)] 30 (0, 0))) ∧ Aside0 (Below w.heap.size w w'))
    case atStart => exact ⟨(x3_1), (0), zA, zA, H', ⟨Nat.le_refl _⟩, ⟨zK BK127⟩, ⟨zB⟩⟩
    case round =>
     clear H'
     (try clear p1); (try clear q1); (try clear hx1); (try clear p2); (try clear c4); (try clear c4b0); (try clear c5); (try clear c5b0); (try clear c6); (try clear c6b0); (try clear p6); (try clear c7); (try clear c7b0); (try clear c7b1); (try clear hcz3_0); (try clear hcz3_1); (try clear hcz3_2); (try clear hcz3_3); (try clear hcz9_0); (try clear hcz9_1); (try clear hcz9_2); (try clear hcz9_3); (try clear hfz3_0); (try clear hfz3_1); (try clear hfz3_2); (try clear hfz3_3); (try clear hfz9_0); (try clear hfz9_1); (try clear hfz9_2); (try clear hfz9_3); (try clear hx128_0); (try clear p128); (try clear p2); (try clear q128)
     obtain ⟨x3_2, x23_2, rfl, rfl, HA, HK2, BK127, HB⟩ := hrel
     cases gk with
     | zero => exact absurd HA.out (by simp [impl_Figure_set.l1])
     | succ k2 =>
      have H := HA.out
      clear HA
      simp only [impl_Figure_set.l1] at H
      by_cases c10 : x23_2 < (l0_3.length : Int)
      ·rw [if_pos c10] at H
       have c10b0 : decide (x23_2 < (l0_3.length : Int)) = true := decide_eq_true c10
       clear c10
       by_cases c11 : 0 ≤ x23_2
       ·rw [if_pos c11] at H
        have c11b0 : decide (0 ≤ x23_2) = true := decide_eq_true c11
        clear c11
        by_cases c12 : x23_2 < (l0_3.length : Int)
        ·rw [if_pos c12] at H
         have c12b0 : decide (x23_2 < (l0_3.length : Int)) = true := decide_eq_true c12
         clear c12
         replace H := Option.bind_eq_some_iff.mp H
         obtain ⟨⟨t130, t131⟩, A130, H⟩ := H
         replace H : ((impl_grid_levels.f t130 t131).bind fun t132 => (if 0 ≤ (wrap64 (t132 + (rd l0_3 x23_2))) then (impl_Figure_set.l1 k2 (Go.bits .or .u64 x3_2 (shl .u64 1 (wrap64 (t132 + (rd l0_3 x23_2))))) l0_3 (l0_3.length : Int) (wrap64 (x23_2 + 1)) a0_0 a0_1 l0_2 l0_3) else (none))) = some r := H
         have A13 := Aside0.mk A130
         clear A130
         replace H := Option.bind_eq_some_iff.mp H
         obtain ⟨t132, A140, H⟩ := H
         replace H : (if 0 ≤ (wrap64 (t132 + (rd l0_3 x23_2))) then (impl_Figure_set.l1 k2 (Go.bits .or .u64 x3_2 (shl .u64 1 (wrap64 (t132 + (rd l0_3 x23_2))))) l0_3 (l0_3.length : Int) (wrap64 (x23_2 + 1)) a0_0 a0_1 l0_2 l0_3) else (none)) = some r := H
         have A14 := Aside0.mk A140
         clear A140
         obtain ⟨ji15, hji15⟩ : ∃ j_ : Int, (wrap64 (t132 + (rd l0_3 x23_2))) = j_ := ⟨_, rfl⟩
         replace H : (if 0 ≤ (ji15) then (impl_Figure_set.l1 k2 (Go.bits .or .u64 x3_2 (shl .u64 1 (ji15))) l0_3 (l0_3.length : Int) (wrap64 (x23_2 + 1)) a0_0 a0_1 l0_2 l0_3) else (none)) = some r := by first | (rw [hji15] at H; exact H) | (simp only [hji15] at H ⊢; exact H)
         (try rw [hji15] at A13)
         (try rw [hji15] at A14)
         have hji15w : (IntKind.i64.wrap (t132 + (rd l0_3 x23_2))) = ji15 := (i64_w _).trans hji15
         by_cases c16 : 0 ≤ (ji15)
         ·rw [if_pos c16] at H
          have c16b0 := eq_true c16
          have c16b1 : decide (0 ≤ (ji15)) = true := decide_eq_true c16
          clear c16
          obtain ⟨ji17, hji17⟩ : ∃ j_ : Int, (shl .u64 1 (ji15)) = j_ := ⟨_, rfl⟩
          replace H : (impl_Figure_set.l1 k2 (Go.bits .or .u64 x3_2 (ji17)) l0_3 (l0_3.length : Int) (wrap64 (x23_2 + 1)) a0_0 a0_1 l0_2 l0_3) = some r := by first | (rw [hji17] at H; exact H) | (simp only [hji17] at H ⊢; exact H)
          (try rw [hji17] at A13)
          (try rw [hji17] at A14)
          have hji17_ : (IntKind.u64.wrap (1 * 2 ^ min (ji15).toNat 64)) = ji17 := hji17
          have hji17z : (ji15) ≤ 64 → (IntKind.u64.wrap (1 * 2 ^ (ji15).toNat)) = ji17 := shl_small hji17
          have hji17u : (IntKind.u64.wrap (2 ^ min (ji15).toNat 64)) = ji17 := by have h_ := hji17_; rw [Int.one_mul] at h_; exact h_
          have hji17v : (ji15) ≤ 64 → (IntKind.u64.wrap (2 ^ (ji15).toNat)) = ji17 := fun hle_ => by have h_ := hji17z hle_; rw [Int.one_mul] at h_; exact h_
          have H' := Aside0.mk H
          clear H
          have p129 : 0 ≤ (x23_2 : Int) := of_decide_eq_true (by assumption)
          have q129 : x23_2 < (l0_3.length : Int) := of_decide_eq_true (by assumption)
          obtain ⟨ad129, e129, hx129_0⟩ := Kd.at_int HR0_3.out x23_2 p129 q129
          cases e129
          replace hx129_0 := (HB.out.cell (World.block_lt_of_cell? w _ hx129_0)).trans hx129_0
          replace p129 := eq_true p129
          replace q129 := eq_true q129
          obtain ⟨hcz18_0, hcz18_1, hcz18_2, hcz18_3, hfz18_0, hfz18_1, hfz18_2, hfz18_3⟩ := blk4 BK127
          go_wp2_with (first | ((with_reducible refine gate_callee (f := 40) rfl ?_); refine goesL_ (some 29) rfl rfl Tryd.func40 (by kernel_rfl) rfl #[.agg #[.int .i64 a0_0, .int .i64 a0_1, .slice A0_2 l0_2.length c0_2, .slice (some ad129) l0_3.length c0_3]] rfl zM ?_; (with_reducible refine (impl_Figure_grid.calls a0_0 a0_1 _ _ l0_2 _ _ l0_3 t130 t131 _ ?side1 ?side2 ?side3 ?side4 A13.out).mono ?_); (case side1 => exact zC HR0_2); (case side2 => exact HC0_2.out); (case side3 => exact zC HR0_3); (case side4 => exact HC0_3.out); rintro e w19 ⟨rfl, hb⟩; refine ⟨_, rfl, ?_⟩; replace BK127 := zKb BK127 hb; replace HB := zBb hb; (try clear hb); (try clear hb2); (try clear hk); (try clear hi)) | ((with_reducible refine gate_callee (f := 78) rfl ?_); refine goesL_ (some 30) rfl rfl Tryd.func78 (by kernel_rfl) rfl #[.agg #[.int .i64 t130, .int .i64 t131]] rfl zM ?_; (with_reducible refine (impl_grid_levels.calls t130 t131 t132 _ A14.out).mono ?_); rintro e w20 ⟨rfl, hb⟩; refine ⟨_, rfl, ?_⟩; replace BK127 := zKb BK127 hb; replace HB := zBb hb; (try clear hb); (try clear hb2); (try clear hk); (try clear hi)))
          go_roundg k2
          case measure => have := HK1.out; have := HK2.out; omega
          case rel => exact ⟨(Go.bits .or .u64 x3_2 (ji17)), (wrap64 (x23_2 + 1)), (by first | rfl | (simp; done) | (simp only [← hji17] <;> (first | rfl | simp)) | (simp [*]; done)), zA, H', ⟨by have := HK1.out; have := HK2.out; omega⟩, ⟨zK BK127⟩, ⟨zB⟩⟩
         ·rw [if_neg c16] at H
          exact absurd H (by simp)
        ·rw [if_neg c12] at H
         exact absurd H (by simp)
       ·rw [if_neg c11] at H
        exact absurd H (by simp)
      ·rw [if_neg c10] at H
       have c10b0 : decide (x23_2 < (l0_3.length : Int)) = false := decide_eq_false c10
       clear c10
       obtain rfl := Option.some.inj H
       go_wp2
       go_ret
       exact ⟨zE, zB⟩

/-! ### impl_grid_isCell: function 113 -/
set_option maxHeartbeats 8000000 in
set_option maxRecDepth 100000 in
theorem impl_grid_isCell.calls (a0_0 : Int) (a0_1 : Int) (a1 : Int) (a2 : Int) (r : Bool) (w : World) (h : impl_grid_isCell.f a0_0 a0_1 a1 a2 = some r) :
  Calls Tryd.prog 113 #[.agg #[.int .i64 a0_0, .int .i64 a0_1], .int .i64 a1, .int .i64 a2] w fun e w' => e = .returned (.bool r) ∧ Below w.heap.size w w' := by
 have hu58 := Tryd.underlying58
 have HB := Aside0.mk (Below.refl w.heap.size w)
 have H : ((impl_within.f a1 0 (wrap64 (a0_0 - 1))).bind fun t134 => (if t134 = true then ((impl_within.f a2 0 (wrap64 (a0_1 - 1))).bind fun t135 => (some t135)) else (some false))) = some r := h
 clear h
 replace H := Option.bind_eq_some_iff.mp H
 obtain ⟨t134, A40, H⟩ := H
 replace H : (if t134 = true then ((impl_within.f a2 0 (wrap64 (a0_1 - 1))).bind fun t135 => (some t135)) else (some false)) = some r := H
 have A4 := Aside0.mk A40
 clear A40
 by_cases c5 : t134 = true
 ·subst c5
  have H1 : ((impl_within.f a2 0 (wrap64 (a0_1 - 1))).bind fun t135 => (some t135)) = some r := by rw [if_pos rfl] at H; exact H
  clear H
  have H := H1
  clear H1
  replace H := Option.bind_eq_some_iff.mp H
  obtain ⟨t135, A60, H⟩ := H
  replace H : (some t135) = some r := H
  have A6 := Aside0.mk A60
  clear A60
  obtain rfl := Option.some.inj H
  go_enter Tryd.func113, Tryd.ntmps113
  go_wp2_with (first | ((with_reducible refine gate_dst (N := 3) rfl ?_); refine zbx 3 #[.int .i64 a0_0, .int .i64 a0_1] 58 ?_; intro gb133 hg w7 hbox hb; have BK133 := Aside0.mk (hbox); have GW133 := zGe hg; have GE133 := zGe hg; replace HB := zBb hb; clear hb hbox hg; obtain ⟨hcz8_0, hcz8_1, hfz8_0, hfz8_1⟩ := blk2 BK133) | ((with_reducible refine gate_callee (f := 23) rfl ?_); refine goesL_ (some 11) rfl rfl Tryd.func23 (by kernel_rfl) rfl #[.int .i64 a1, .int .i64 0, .int .i64 (wrap64 (a0_0 - 1))] rfl zM ?_; (with_reducible refine (impl_within.calls a1 0 (wrap64 (a0_0 - 1)) true _ A4.out).mono ?_); rintro e w' ⟨rfl, ⟨nd, rfl⟩⟩; refine ⟨_, rfl, ?_⟩) | (go_at_call 23; (with_reducible refine (impl_within.calls a2 0 (wrap64 (a0_1 - 1)) t135 _ A6.out).mono ?_); rintro e w' ⟨rfl, ⟨nd, rfl⟩⟩))
  go_ret
  exact ⟨zE, zB⟩
 ·replace c5 := Bool.eq_false_iff.mpr c5
  subst c5
  have H1 : (some false) = some r := by rw [if_neg (show ¬ (false = true) by decide)] at H; exact H
  clear H
  have H := H1
  clear H1
  obtain rfl := Option.some.inj H
  go_enter Tryd.func113, Tryd.ntmps113
  go_wp2_with (first | ((with_reducible refine gate_dst (N := 3) rfl ?_); refine zbx 3 #[.int .i64 a0_0, .int .i64 a0_1] 58 ?_; intro gb133 hg w9 hbox hb; have BK133 := Aside0.mk (hbox); have GW133 := zGe hg; have GE133 := zGe hg; replace HB := zBb hb; clear hb hbox hg; obtain ⟨hcz10_0, hcz10_1, hfz10_0, hfz10_1⟩ := blk2 BK133) | ((with_reducible refine gate_callee (f := 23) rfl ?_); refine goesL_ (some 11) rfl rfl Tryd.func23 (by kernel_rfl) rfl #[.int .i64 a1, .int .i64 0, .int .i64 (wrap64 (a0_0 - 1))] rfl zM ?_; (with_reducible refine (impl_within.calls a1 0 (wrap64 (a0_0 - 1)) false _ A4.out).mono ?_); rintro e w' ⟨rfl, ⟨nd, rfl⟩⟩; refine ⟨_, rfl, ?_⟩))
  go_ret
  exact ⟨zE, zB⟩

/-! ### spec_l1In: function 34 -/
set_option maxHeartbeats 8000000 in
set_option maxRecDepth 100000 in
theorem spec_l1In.calls (a0 : Int) (a1 : Int) (a2 : Int) (r : Bool) (w : World) (h : spec_l1In.f a0 a1 a2 = some r) :
  Calls Tryd.prog 34 #[.int .i64 a0, .int .i64 a1, .int .i64 a2] w fun e w' => e = .returned (.bool r) ∧ Drawn0 w w' := by
 have H : (if a0 ≥ a1 then (some (decide (a0 ≤ a2))) else (some false)) = some r := h
 clear h
 by_cases c4 : a0 ≥ a1
 ·rw [if_pos c4] at H
  have c4b0 : decide (a1 ≤ a0) = true := decide_eq_true c4
  clear c4
  obtain rfl := Option.some.inj H
  go_enter Tryd.func34, Tryd.ntmps34
  go_wp2
  go_ret
  exact ⟨by first | rfl | (simp; done) | (simp [*]; done), by repeat (first | exact Drawn0.refl _ | apply Drawn0.step)⟩
 ·rw [if_neg c4] at H
  have c4b0 : decide (a1 ≤ a0) = false := decide_eq_false c4
  clear c4
  obtain rfl := Option.some.inj H
  go_enter Tryd.func34, Tryd.ntmps34
  go_wp2
  go_ret
  exact ⟨by first | rfl | (simp; done) | (simp [*]; done), by repeat (first | exact Drawn0.refl _ | apply Drawn0.step)⟩

/-! ### spec_fiGrid: function 69 -/
set_option maxHeartbeats 8000000 in
set_option maxRecDepth 100000 in
theorem spec_fiGrid.calls (a0 : Int) (a1 : Int) (r : Bool) (w : World) (h : spec_fiGrid.f a0 a1 = some r) :
  Calls Tryd.prog 69 #[.int .i64 a0, .int .i64 a1] w fun e w' => e = .returned (.bool r) ∧ Drawn0 w w' := by
 have H : ((spec_l1In.f a0 1 4).bind fun t136 => (if t136 = true then ((spec_l1In.f a1 1 4).bind fun t137 => (some t137)) else (some false))) = some r := h
 clear h
 replace H := Option.bind_eq_some_iff.mp H
 obtain ⟨t136, A30, H⟩ := H
 replace H : (if t136 = true then ((spec_l1In.f a1 1 4).bind fun t137 => (some t137)) else (some false)) = some r := H
 have A3 := Aside0.mk A30
 clear A30
 by_cases c4 : t136 = true
 ·subst c4
  have H1 : ((spec_l1In.f a1 1 4).bind fun t137 => (some t137)) = some r := by rw [if_pos rfl] at H; exact H
  clear H
  have H := H1
  clear H1
  replace H := Option.bind_eq_some_iff.mp H
  obtain ⟨t137, A50, H⟩ := H
  replace H : (some t137) = some r := H
  have A5 := Aside0.mk A50
  clear A50
  obtain rfl := Option.some.inj H
  go_enter Tryd.func69, Tryd.ntmps69
  go_wp2_with (first | ((with_reducible refine gate_callee (f := 34) rfl ?_); refine goesL_ (some 6) rfl rfl Tryd.func34 (by kernel_rfl) rfl #[.int .i64 a0, .int .i64 1, .int .i64 4] rfl zM ?_; (with_reducible refine (spec_l1In.calls a0 1 4 true _ A3.out).mono ?_); rintro e w' ⟨rfl, ⟨nd, rfl⟩⟩; refine ⟨_, rfl, ?_⟩) | (go_at_call 34; (with_reducible refine (spec_l1In.calls a1 1 4 t137 _ A5.out).mono ?_); rintro e w' ⟨rfl, ⟨nd, rfl⟩⟩))
  go_ret
  exact ⟨by first | rfl | (simp; done) | (simp [*]; done), by repeat (first | exact Drawn0.refl _ | apply Drawn0.step)⟩
 ·replace c4 := Bool.eq_false_iff.mpr c4
  subst c4
  have H1 : (some false) = some r := by rw [if_neg (show ¬ (false = true) by decide)] at H; exact H
  clear H
  have H := H1
  clear H1
  obtain rfl := Option.some.inj H
  go_enter Tryd.func69, Tryd.ntmps69
  go_wp2_with (first | ((with_reducible refine gate_callee (f := 34) rfl ?_); refine goesL_ (some 6) rfl rfl Tryd.func34 (by kernel_rfl) rfl #[.int .i64 a0, .int .i64 1, .int .i64 4] rfl zM ?_; (with_reducible refine (spec_l1In.calls a0 1 4 false _ A3.out).mono ?_); rintro e w' ⟨rfl, ⟨nd, rfl⟩⟩; refine ⟨_, rfl, ?_⟩))
  go_ret
  exact ⟨by first | rfl | (simp; done) | (simp [*]; done), by repeat (first | exact Drawn0.refl _ | apply Drawn0.step)⟩

/-! ### spec_l1All: function 96 -/
set_option maxHeartbeats 8000000 in
set_option maxRecDepth 100000 in
theorem spec_l1All.calls (k : Nat) (A0 : Option Addr) (c0 : Nat) (l0 : List Int) (a1 : Int) (a2 : Int) (r : Bool) (w : World) (hr0 : Kd.C (Kd.int .i64) w A0 l0.length l0) (hc0 : l0.length ≤ c0) (h : spec_l1All.f k l0 a1 a2 = some r) :
  Calls Tryd.prog 96 #[.slice A0 l0.length c0, .int .i64 a1, .int .i64 a2] w fun e w' => e = .returned (.bool r) ∧ Drawn0 w w' := by
 have HR0 := Aside0.mk hr0
 have HC0 := Aside0.mk hc0
 clear hr0 hc0
 have H : (spec_l1All.l0 k a1 a2 l0 (l0.length : Int) 0) = some r := h
 clear h
 have H' := Aside0.mk H
 clear H
 go_enter Tryd.func96, Tryd.ntmps96
 go_wp2
 go_loopg [11] k (fun kq v11 w' => ∃ (x11_1 : Int), v11 = .int .i64 x11_1 ∧ Aside0 (spec_l1All.l0 kq a1 a2 l0 (l0.length : Int) x11_1 = some r) ∧ Aside0 (kq ≤ k) ∧ Drawn0 w w')
 case atStart => exact ⟨(0), zA, H', ⟨Nat.le_refl _⟩, by repeat (first | exact Drawn0.refl _ | apply Drawn0.step)⟩
 case round =>
  clear H'
  try clear p2
  obtain ⟨x11_1, rfl, HA, HK1, ⟨m1, rfl⟩⟩ := hrel
  cases gk with
  | zero => exact absurd HA.out (by simp [spec_l1All.l0])
  | succ k1 =>
   have H := HA.out
   clear HA
   simp only [spec_l1All.l0] at H
   by_cases c4 : x11_1 < (l0.length : Int)
   ·rw [if_pos c4] at H
    have c4b0 : decide (x11_1 < (l0.length : Int)) = true := decide_eq_true c4
    clear c4
    by_cases c5 : 0 ≤ x11_1
    ·rw [if_pos c5] at H
     have c5b0 : decide (0 ≤ x11_1) = true := decide_eq_true c5
     clear c5
     by_cases c6 : x11_1 < (l0.length : Int)
     ·rw [if_pos c6] at H
      have c6b0 : decide (x11_1 < (l0.length : Int)) = true := decide_eq_true c6
      clear c6
      replace H := Option.bind_eq_some_iff.mp H
      obtain ⟨t139, A70, H⟩ := H
      replace H : (if t139 = true then (spec_l1All.l0 k1 a1 a2 l0 (l0.length : Int) (wrap64 (x11_1 + 1))) else (some false)) = some r := H
      have A7 := Aside0.mk A70
      clear A70
      by_cases c8 : t139 = true
      ·subst c8
       have H1 : (spec_l1All.l0 k1 a1 a2 l0 (l0.length : Int) (wrap64 (x11_1 + 1))) = some r := by rw [if_pos rfl] at H; exact H
       clear H
       have H := H1
       clear H1
       have H' := Aside0.mk H
       clear H
       have p138 : 0 ≤ (x11_1 : Int) := of_decide_eq_true (by assumption)
       have q138 : x11_1 < (l0.length : Int) := of_decide_eq_true (by assumption)
       obtain ⟨ad138, e138, hx138_0⟩ := Kd.at_int HR0.out x11_1 p138 q138
       cases e138
       replace p138 := eq_true p138
       replace q138 := eq_true q138
       go_wp2_with (first | ((with_reducible refine gate_callee (f := 34) rfl ?_); refine goesL_ (some 18) rfl rfl Tryd.func34 (by kernel_rfl) rfl #[.int .i64 (rd l0 x11_1), .int .i64 a1, .int .i64 a2] rfl zM ?_; (with_reducible refine (spec_l1In.calls (rd l0 x11_1) a1 a2 true _ A7.out).mono ?_); rintro e w' ⟨rfl, ⟨nd, rfl⟩⟩; refine ⟨_, rfl, ?_⟩))
       go_roundg k1
       case measure => have := HK1.out; omega
       case rel => exact ⟨(wrap64 (x11_1 + 1)), zA, H', ⟨by have := HK1.out; omega⟩, by repeat (first | exact Drawn0.refl _ | apply Drawn0.step)⟩
      ·replace c8 := Bool.eq_false_iff.mpr c8
       subst c8
       have H1 : (some false) = some r := by rw [if_neg (show ¬ (false = true) by decide)] at H; exact H
       clear H
       have H := H1
       clear H1
       obtain rfl := Option.some.inj H
       have p138 : 0 ≤ (x11_1 : Int) := of_decide_eq_true (by assumption)
       have q138 : x11_1 < (l0.length : Int) := of_decide_eq_true (by assumption)
       obtain ⟨ad138, e138, hx138_0⟩ := Kd.at_int HR0.out x11_1 p138 q138
       cases e138
       replace p138 := eq_true p138
       replace q138 := eq_true q138
       go_wp2_with (first | ((with_reducible refine gate_callee (f := 34) rfl ?_); refine goesL_ (some 18) rfl rfl Tryd.func34 (by kernel_rfl) rfl #[.int .i64 (rd l0 x11_1), .int .i64 a1, .int .i64 a2] rfl zM ?_; (with_reducible refine (spec_l1In.calls (rd l0 x11_1) a1 a2 false _ A7.out).mono ?_); rintro e w' ⟨rfl, ⟨nd, rfl⟩⟩; refine ⟨_, rfl, ?_⟩))
       go_ret
       exact ⟨by first | rfl | (simp; done) | (simp [*]; done), by repeat (first | exact Drawn0.refl _ | apply Drawn0.step)⟩
     ·rw [if_neg c6] at H
      exact absurd H (by simp)
    ·rw [if_neg c5] at H
     exact absurd H (by simp)
   ·rw [if_neg c4] at H
    have c4b0 : decide (x11_1 < (l0.length : Int)) = false := decide_eq_false c4
    clear c4
    obtain rfl := Option.some.inj H
    go_wp2
    go_ret
    exact ⟨by first | rfl | (simp; done) | (simp [*]; done), by repeat (first | exact Drawn0.refl _ | apply Drawn0.step)⟩

/-! ### spec_fiRises: function 70 -/
set_option maxHeartbeats 8000000 in
set_option maxRecDepth 100000 in
theorem spec_fiRises.calls (k : Nat) (A0 : Option Addr) (c0 : Nat) (l0 : List Int) (a1 : Int) (r : Bool) (w : World) (hr0 : Kd.C (Kd.int .i64) w A0 l0.length l0) (hc0 : l0.length ≤ c0) (h : spec_fiRises.f k l0 a1 = some r) :
  Calls Tryd.prog 70 #[.slice A0 l0.length c0, .int .i64 a1] w fun e w' => e = .returned (.bool r) ∧ Drawn0 w w' := by
 have HR0 := Aside0.mk hr0
 have HC0 := Aside0.mk hc0
 clear hr0 hc0
 have H : (if (l0.length : Int) > (wrap64 (a1 + 1)) then (spec_fiRises.j0 k l0 true) else ((spec_l1All.f k l0 0 a1).bind fun t140 => (spec_fiRises.j0 k l0 (!t140)))) = some r := h
 clear h
 have HC3 := Aside0.mk H
 clear H
 go_enter Tryd.func70, Tryd.ntmps70
 go_upto_region 1 with (fail)
 repeat (go_quiet (fail); go_upto_region 1 with (fail))
 go_cut [16] (fun v16 wc => ∃ (kq : Nat) (x16_2 : Bool), v16 = .bool x16_2 ∧ Aside0 (spec_fiRises.j0 kq l0 x16_2 = some r) ∧ Aside0 (kq ≤ k) ∧ Drawn0 w wc)
 case first =>
  have H := HC3.out
  clear HC3
  by_cases c4 : (l0.length : Int) > (wrap64 (a1 + 1))
  ·rw [if_pos c4] at H
   have c4b0 : decide ((wrap64 (a1 + 1)) < (l0.length : Int)) = true := decide_eq_true c4
   clear c4
   (first | rw [c4b0] | (simp only [i64_w, i32_w]; rw [c4b0]) | skip)
   have H' := Aside0.mk H
   clear H
   go_wp2
   repeat (go_quiet (fail); try go_wp2)
   go_meet
   case rel => exact ⟨_, (true), zA, H', ⟨by first | omega | exact Nat.le_refl _⟩, by repeat (first | exact Drawn0.refl _ | apply Drawn0.step)⟩
  ·rw [if_neg c4] at H
   have c4b0 : decide ((wrap64 (a1 + 1)) < (l0.length : Int)) = false := decide_eq_false c4
   clear c4
   (first | rw [c4b0] | (simp only [i64_w, i32_w]; rw [c4b0]) | skip)
   replace H := Option.bind_eq_some_iff.mp H
   obtain ⟨t140, A50, H⟩ := H
   replace H : (spec_fiRises.j0 k l0 (!t140)) = some r := H
   have A5 := Aside0.mk A50
   clear A50
   have H' := Aside0.mk H
   clear H
   go_wp2_with (first | (go_at_call 96; (with_reducible refine (spec_l1All.calls k _ _ l0 0 a1 t140 _ ?side1 ?side2 A5.out).mono ?_); (case side1 => repeat (first | exact HR0.out | (with_reducible refine Kd.C_alloc ?_ _) | (with_reducible refine Kd.C_drewN ?_ _) | (with_reducible refine Kd.C_drew ?_))); (case side2 => exact HC0.out); rintro e w' ⟨rfl, ⟨nd, rfl⟩⟩; (try exact zD)))
   repeat (go_quiet (first | (go_at_call 96; (with_reducible refine (spec_l1All.calls k _ _ l0 0 a1 t140 _ ?side1 ?side2 A5.out).mono ?_); (case side1 => repeat (first | exact HR0.out | (with_reducible refine Kd.C_alloc ?_ _) | (with_reducible refine Kd.C_drewN ?_ _) | (with_reducible refine Kd.C_drew ?_))); (case side2 => exact HC0.out); rintro e w' ⟨rfl, ⟨nd, rfl⟩⟩; (try exact zD))); try go_wp2_with (first | (go_at_call 96; (with_reducible refine (spec_l1All.calls k _ _ l0 0 a1 t140 _ ?side1 ?side2 A5.out).mono ?_); (case side1 => repeat (first | exact HR0.out | (with_reducible refine Kd.C_alloc ?_ _) | (with_reducible refine Kd.C_drewN ?_ _) | (with_reducible refine Kd.C_drew ?_))); (case side2 => exact HC0.out); rintro e w' ⟨rfl, ⟨nd, rfl⟩⟩; (try exact zD))))
   go_meet
   case rel => exact ⟨_, (!t140), zA, H', ⟨by first | omega | exact Nat.le_refl _⟩, by repeat (first | exact Drawn0.refl _ | apply Drawn0.step)⟩
 case rest =>
  clear HC3
  (try clear p2); (try clear c4); (try clear c4b0)
  obtain ⟨kq, x16_2, rfl, HA, HJ2, ⟨mc2, rfl⟩⟩ := hcut
  cases kq with
  | zero => exact absurd HA.out (by simp [spec_fiRises.j0])
  | succ kj2 =>
   have H := HA.out
   clear HA
   simp only [spec_fiRises.j0] at H
   by_cases c6 : x16_2 = true
   ·subst c6
    have H1 : (some false) = some r := by rw [if_pos rfl] at H; exact H
    clear H
    have H := H1
    clear H1
    obtain rfl := Option.some.inj H
    go_wp2
    repeat (go_quiet (fail); try go_wp2)
    go_ret
    exact ⟨by first | rfl | (simp; done) | (simp [*]; done), by repeat (first | exact Drawn0.refl _ | apply Drawn0.step)⟩
   ·replace c6 := Bool.eq_false_iff.mpr c6
    subst c6
    have H1 : (spec_fiRises.l0 kj2 l0 1) = some r := by rw [if_neg (show ¬ (false = true) by decide)] at H; exact H
    clear H
    have H := H1
    clear H1
    have H' := Aside0.mk H
    clear H
    go_wp2
    repeat (go_quiet (fail); try go_wp2)
    go_loopg [5] kj2 (fun kq v5 w' => ∃ (x5_2 : Int), v5 = .int .i64 x5_2 ∧ Aside0 (spec_fiRises.l0 kq l0 x5_2 = some r) ∧ Aside0 (kq ≤ kj2) ∧ Drawn0 w w')
    case atStart => exact ⟨(1), zA, H', ⟨Nat.le_refl _⟩, by repeat (first | exact Drawn0.refl _ | apply Drawn0.step)⟩
    case round =>
     clear H'
     (try clear c2); (try clear p2); (try clear c4); (try clear c4b0); (try clear c6); (try clear p6); (try clear p2)
     obtain ⟨x5_2, rfl, HA, HK2, ⟨m2, rfl⟩⟩ := hrel
     cases gk with
     | zero => exact absurd HA.out (by simp [spec_fiRises.l0])
     | succ k2 =>
      have H := HA.out
      clear HA
      simp only [spec_fiRises.l0] at H
      by_cases c7 : x5_2 < (l0.length : Int)
      ·rw [if_pos c7] at H
       have c7b0 : decide (x5_2 < (l0.length : Int)) = true := decide_eq_true c7
       clear c7
       obtain ⟨ji8, hji8⟩ : ∃ j_ : Int, (wrap64 (x5_2 - 1)) = j_ := ⟨_, rfl⟩
       replace H : (if 0 ≤ (ji8) then (if (ji8) < (l0.length : Int) then (if 0 ≤ x5_2 then (if (rd l0 (ji8)) ≥ (rd l0 x5_2) then (some false) else (spec_fiRises.l0 k2 l0 (wrap64 (x5_2 + 1)))) else (none)) else (none)) else (none)) = some r := by first | (rw [hji8] at H; exact H) | (simp only [hji8] at H ⊢; exact H)
       have hji8w : (IntKind.i64.wrap (x5_2 - 1)) = ji8 := (i64_w _).trans hji8
       by_cases c9 : 0 ≤ (ji8)
       ·rw [if_pos c9] at H
        have c9b0 : decide (0 ≤ (ji8)) = true := decide_eq_true c9
        clear c9
        by_cases c10 : (ji8) < (l0.length : Int)
        ·rw [if_pos c10] at H
         have c10b0 : decide ((ji8) < (l0.length : Int)) = true := decide_eq_true c10
         clear c10
         by_cases c11 : 0 ≤ x5_2
         ·rw [if_pos c11] at H
          have c11b0 : decide (0 ≤ x5_2) = true := decide_eq_true c11
          clear c11
          by_cases c12 : (rd l0 (ji8)) ≥ (rd l0 x5_2)
          ·rw [if_pos c12] at H
           have c12b0 : decide ((rd l0 x5_2) ≤ (rd l0 (ji8))) = true := decide_eq_true c12
           clear c12
           obtain rfl := Option.some.inj H
           have p141 : 0 ≤ ((ji8) : Int) := of_decide_eq_true (by assumption)
           have q141 : (ji8) < (l0.length : Int) := of_decide_eq_true (by assumption)
           obtain ⟨ad141, e141, hx141_0⟩ := Kd.at_int HR0.out (ji8) p141 q141
           cases e141
           replace p141 := eq_true p141
           replace q141 := eq_true q141
           have p142 : 0 ≤ (x5_2 : Int) := of_decide_eq_true (by assumption)
           have q142 : x5_2 < (l0.length : Int) := of_decide_eq_true (by assumption)
           obtain ⟨ad142, e142, hx142_0⟩ := Kd.at_int HR0.out x5_2 p142 q142
           obtain rfl : ad141 = ad142 := (by injection e142)
           replace p142 := eq_true p142
           replace q142 := eq_true q142
           go_wp2
           repeat (go_quiet (fail); try go_wp2)
           go_ret
           exact ⟨by first | rfl | (simp; done) | (simp only [← hji8] <;> (first | rfl | simp)) | (simp [*]; done), by repeat (first | exact Drawn0.refl _ | apply Drawn0.step)⟩
          ·rw [if_neg c12] at H
           have c12b0 : decide ((rd l0 x5_2) ≤ (rd l0 (ji8))) = false := decide_eq_false c12
           clear c12
           have H' := Aside0.mk H
           clear H
           have p141 : 0 ≤ ((ji8) : Int) := of_decide_eq_true (by assumption)
           have q141 : (ji8) < (l0.length : Int) := of_decide_eq_true (by assumption)
           obtain ⟨ad141, e141, hx141_0⟩ := Kd.at_int HR0.out (ji8) p141 q141
           cases e141
           replace p141 := eq_true p141
           replace q141 := eq_true q141
           have p142 : 0 ≤ (x5_2 : Int) := of_decide_eq_true (by assumption)
           have q142 : x5_2 < (l0.length : Int) := of_decide_eq_true (by assumption)
           obtain ⟨ad142, e142, hx142_0⟩ := Kd.at_int HR0.out x5_2 p142 q142
           obtain rfl : ad141 = ad142 := (by injection e142)
           replace p142 := eq_true p142
           replace q142 := eq_true q142
           go_wp2
           repeat (go_quiet (fail); try go_wp2)
           go_roundg k2
           case measure => have := HJ2.out; have := HK2.out; omega
           case rel => exact ⟨(wrap64 (x5_2 + 1)), zA, H', ⟨by have := HJ2.out; have := HK2.out; omega⟩, by repeat (first | exact Drawn0.refl _ | apply Drawn0.step)⟩
         ·rw [if_neg c11] at H
          exact absurd H (by simp)
        ·rw [if_neg c10] at H
         exact absurd H (by simp)
       ·rw [if_neg c9] at H
        exact absurd H (by simp)
      ·rw [if_neg c7] at H
       have c7b0 : decide (x5_2 < (l0.length : Int)) = false := decide_eq_false c7
       clear c7
       obtain rfl := Option.some.inj H
       go_wp2
       repeat (go_quiet (fail); try go_wp2)
       go_ret
       exact ⟨by first | rfl | (simp; done) | (simp [*]; done), by repeat (first | exact Drawn0.refl _ | apply Drawn0.step)⟩

/-! ### spec_fiGood: function 33 -/
set_option maxHeartbeats 8000000 in
set_option maxRecDepth 100000 in
theorem spec_fiGood.calls (k : Nat) (a0_0 : Int) (a0_1 : Int) (A0_2 : Option Addr) (c0_2 : Nat) (l0_2 : List Int) (A0_3 : Option Addr) (c0_3 : Nat) (l0_3 : List Int) (r : Bool) (w : World) (hr0_2 : Kd.C (Kd.int .i64) w A0_2 l0_2.length l0_2) (hc0_2 : l0_2.length ≤ c0_2) (hr0_3 : Kd.C (Kd.int .i64) w A0_3 l0_3.length l0_3) (hc0_3 : l0_3.length ≤ c0_3) (h : spec_fiGood.f k a0_0 a0_1 l0_2 l0_3 = some r) :
  Calls Tryd.prog 33 #[.agg #[.int .i64 a0_0, .int .i64 a0_1, .slice A0_2 l0_2.length c0_2, .slice A0_3 l0_3.length c0_3]] w fun e w' => e = .returned (.bool r) ∧ Below w.heap.size w w' := by
 have hu30 := Tryd.underlying30
 have HR0_2 := Aside0.mk hr0_2
 have HC0_2 := Aside0.mk hc0_2
 clear hr0_2 hc0_2
 have HR0_3 := Aside0.mk hr0_3
 have HC0_3 := Aside0.mk hc0_3
 clear hr0_3 hc0_3
 have HB := Aside0.mk (Below.refl w.heap.size w)
 have H : ((spec_fiGrid.f a0_0 a0_1).bind fun t144 => (if t144 = true then ((spec_fiRises.f k l0_2 (wrap64 ((wrap64 (a0_0 * (wrap64 (a0_1 + 1)))) - 1))).bind fun t145 => (if t145 = true then ((spec_fiRises.f k l0_3 (wrap64 ((wrap64 ((wrap64 (a0_0 + 1)) * a0_1)) - 1))).bind fun t146 => (some t146)) else (some false))) else (some false))) = some r := h
 clear h
 replace H := Option.bind_eq_some_iff.mp H
 obtain ⟨t144, A20, H⟩ := H
 replace H : (if t144 = true then ((spec_fiRises.f k l0_2 (wrap64 ((wrap64 (a0_0 * (wrap64 (a0_1 + 1)))) - 1))).bind fun t145 => (if t145 = true then ((spec_fiRises.f k l0_3 (wrap64 ((wrap64 ((wrap64 (a0_0 + 1)) * a0_1)) - 1))).bind fun t146 => (some t146)) else (some false))) else (some false)) = some r := H
 have A2 := Aside0.mk A20
 clear A20
 by_cases c3 : t144 = true
 ·subst c3
  have H1 : ((spec_fiRises.f k l0_2 (wrap64 ((wrap64 (a0_0 * (wrap64 (a0_1 + 1)))) - 1))).bind fun t145 => (if t145 = true then ((spec_fiRises.f k l0_3 (wrap64 ((wrap64 ((wrap64 (a0_0 + 1)) * a0_1)) - 1))).bind fun t146 => (some t146)) else (some false))) = some r := by rw [if_pos rfl] at H; exact H
  clear H
  have H := H1
  clear H1
  replace H := Option.bind_eq_some_iff.mp H
  obtain ⟨t145, A40, H⟩ := H
  replace H : (if t145 = true then ((spec_fiRises.f k l0_3 (wrap64 ((wrap64 ((wrap64 (a0_0 + 1)) * a0_1)) - 1))).bind fun t146 => (some t146)) else (some false)) = some r := H
  have A4 := Aside0.mk A40
  clear A40
  by_cases c5 : t145 = true
  ·subst c5
   have H1 : ((spec_fiRises.f k l0_3 (wrap64 ((wrap64 ((wrap64 (a0_0 + 1)) * a0_1)) - 1))).bind fun t146 => (some t146)) = some r := by rw [if_pos rfl] at H; exact H
   clear H
   have H := H1
   clear H1
   replace H := Option.bind_eq_some_iff.mp H
   obtain ⟨t146, A60, H⟩ := H
   replace H : (some t146) = some r := H
   have A6 := Aside0.mk A60
   clear A60
   obtain rfl := Option.some.inj H
   go_enter Tryd.func33, Tryd.ntmps33
   go_wp2_with (first | ((with_reducible refine gate_dst (N := 1) rfl ?_); refine zbx 1 #[.int .i64 a0_0, .int .i64 a0_1, .slice A0_2 l0_2.length c0_2, .slice A0_3 l0_3.length c0_3] 30 ?_; intro gb143 hg w7 hbox hb; have BK143 := Aside0.mk (hbox); have GW143 := zGe hg; have GE143 := zGe hg; replace HB := zBb hb; clear hb hbox hg; obtain ⟨hcz8_0, hcz8_1, hcz8_2, hcz8_3, hfz8_0, hfz8_1, hfz8_2, hfz8_3⟩ := blk4 BK143) | ((with_reducible refine gate_callee (f := 69) rfl ?_); refine goesL_ (some 7) rfl rfl Tryd.func69 (by kernel_rfl) rfl #[.int .i64 a0_0, .int .i64 a0_1] rfl zM ?_; (with_reducible refine (spec_fiGrid.calls a0_0 a0_1 true _ A2.out).mono ?_); rintro e w' ⟨rfl, ⟨nd, rfl⟩⟩; refine ⟨_, rfl, ?_⟩) | (go_at_call 70; (with_reducible refine (spec_fiRises.calls k _ _ l0_2 (wrap64 ((wrap64 (a0_0 * (wrap64 (a0_1 + 1)))) - 1)) true _ ?side1 ?side2 A4.out).mono ?_); (case side1 => exact zC HR0_2); (case side2 => exact HC0_2.out); rintro e w' ⟨rfl, ⟨nd, rfl⟩⟩) | (go_at_call 70; (with_reducible refine (spec_fiRises.calls k _ _ l0_3 (wrap64 ((wrap64 ((wrap64 (a0_0 + 1)) * a0_1)) - 1)) t146 _ ?side1 ?side2 A6.out).mono ?_); (case side1 => exact zC HR0_3); (case side2 => exact HC0_3.out); rintro e w' ⟨rfl, ⟨nd, rfl⟩⟩))
   go_ret
   exact ⟨zE, zB⟩
  ·replace c5 := Bool.eq_false_iff.mpr c5
   subst c5
   have H1 : (some false) = some r := by rw [if_neg (show ¬ (false = true) by decide)] at H; exact H
   clear H
   have H := H1
   clear H1
   obtain rfl := Option.some.inj H
   go_enter Tryd.func33, Tryd.ntmps33
   go_wp2_with (first | ((with_reducible refine gate_dst (N := 1) rfl ?_); refine zbx 1 #[.int .i64 a0_0, .int .i64 a0_1, .slice A0_2 l0_2.length c0_2, .slice A0_3 l0_3.length c0_3] 30 ?_; intro gb143 hg w9 hbox hb; have BK143 := Aside0.mk (hbox); have GW143 := zGe hg; have GE143 := zGe hg; replace HB := zBb hb; clear hb hbox hg; obtain ⟨hcz10_0, hcz10_1, hcz10_2, hcz10_3, hfz10_0, hfz10_1, hfz10_2, hfz10_3⟩ := blk4 BK143) | ((with_reducible refine gate_callee (f := 69) rfl ?_); refine goesL_ (some 7) rfl rfl Tryd.func69 (by kernel_rfl) rfl #[.int .i64 a0_0, .int .i64 a0_1] rfl zM ?_; (with_reducible refine (spec_fiGrid.calls a0_0 a0_1 true _ A2.out).mono ?_); rintro e w' ⟨rfl, ⟨nd, rfl⟩⟩; refine ⟨_, rfl, ?_⟩) | (go_at_call 70; (with_reducible refine (spec_fiRises.calls k _ _ l0_2 (wrap64 ((wrap64 (a0_0 * (wrap64 (a0_1 + 1)))) - 1)) false _ ?side1 ?side2 A4.out).mono ?_); (case side1 => exact zC HR0_2); (case side2 => exact HC0_2.out); rintro e w' ⟨rfl, ⟨nd, rfl⟩⟩))
   go_ret
   exact ⟨zE, zB⟩
 ·replace c3 := Bool.eq_false_iff.mpr c3
  subst c3
  have H1 : (some false) = some r := by rw [if_neg (show ¬ (false = true) by decide)] at H; exact H
  clear H
  have H := H1
  clear H1
  obtain rfl := Option.some.inj H
  go_enter Tryd.func33, Tryd.ntmps33
  go_wp2_with (first | ((with_reducible refine gate_dst (N := 1) rfl ?_); refine zbx 1 #[.int .i64 a0_0, .int .i64 a0_1, .slice A0_2 l0_2.length c0_2, .slice A0_3 l0_3.length c0_3] 30 ?_; intro gb143 hg w11 hbox hb; have BK143 := Aside0.mk (hbox); have GW143 := zGe hg; have GE143 := zGe hg; replace HB := zBb hb; clear hb hbox hg; obtain ⟨hcz12_0, hcz12_1, hcz12_2, hcz12_3, hfz12_0, hfz12_1, hfz12_2, hfz12_3⟩ := blk4 BK143) | ((with_reducible refine gate_callee (f := 69) rfl ?_); refine goesL_ (some 7) rfl rfl Tryd.func69 (by kernel_rfl) rfl #[.int .i64 a0_0, .int .i64 a0_1] rfl zM ?_; (with_reducible refine (spec_fiGrid.calls a0_0 a0_1 false _ A2.out).mono ?_); rintro e w' ⟨rfl, ⟨nd, rfl⟩⟩; refine ⟨_, rfl, ?_⟩))
  go_ret
  exact ⟨zE, zB⟩

/-! ### spec_l1Least: function 72 -/
set_option maxHeartbeats 8000000 in
set_option maxRecDepth 100000 in
theorem spec_l1Least.calls (a0 : Int) (a1 : Int) (r : Int) (w : World) (h : spec_l1Least.f a0 a1 = some r) :
  Calls Tryd.prog 72 #[.int .i64 a0, .int .i64 a1] w fun e w' => e = .returned (.int .i64 r) ∧ Drawn0 w w' := by
 have H : (if a0 < a1 then (some a0) else (some a1)) = some r := h
 clear h
 by_cases c3 : a0 < a1
 ·rw [if_pos c3] at H
  have c3b0 : decide (a0 < a1) = true := decide_eq_true c3
  clear c3
  obtain rfl := Option.some.inj H
  go_enter Tryd.func72, Tryd.ntmps72
  go_wp2
  go_ret
  exact ⟨by first | rfl | (simp; done) | (simp [*]; done), by repeat (first | exact Drawn0.refl _ | apply Drawn0.step)⟩
 ·rw [if_neg c3] at H
  have c3b0 : decide (a0 < a1) = false := decide_eq_false c3
  clear c3
  obtain rfl := Option.some.inj H
  go_enter Tryd.func72, Tryd.ntmps72
  go_wp2
  go_ret
  exact ⟨by first | rfl | (simp; done) | (simp [*]; done), by repeat (first | exact Drawn0.refl _ | apply Drawn0.step)⟩

/-! ### spec_l1Has: function 36 -/
set_option maxHeartbeats 8000000 in
set_option maxRecDepth 100000 in
theorem spec_l1Has.calls (k : Nat) (A0 : Option Addr) (c0 : Nat) (l0 : List Int) (a1 : Int) (r : Bool) (w : World) (hr0 : Kd.C (Kd.int .i64) w A0 l0.length l0) (hc0 : l0.length ≤ c0) (h : spec_l1Has.f k l0 a1 = some r) :
  Calls Tryd.prog 36 #[.slice A0 l0.length c0, .int .i64 a1] w fun e w' => e = .returned (.bool r) ∧ Drawn0 w w' := by
 have HR0 := Aside0.mk hr0
 have HC0 := Aside0.mk hc0
 clear hr0 hc0
 have H : (spec_l1Has.l0 k a1 l0 (l0.length : Int) 0) = some r := h
 clear h
 have H' := Aside0.mk H
 clear H
 go_enter Tryd.func36, Tryd.ntmps36
 go_wp2
 go_loopg [9] k (fun kq v9 w' => ∃ (x9_1 : Int), v9 = .int .i64 x9_1 ∧ Aside0 (spec_l1Has.l0 kq a1 l0 (l0.length : Int) x9_1 = some r) ∧ Aside0 (kq ≤ k) ∧ Drawn0 w w')
 case atStart => exact ⟨(0), zA, H', ⟨Nat.le_refl _⟩, by repeat (first | exact Drawn0.refl _ | apply Drawn0.step)⟩
 case round =>
  clear H'
  try clear p2
  obtain ⟨x9_1, rfl, HA, HK1, ⟨m1, rfl⟩⟩ := hrel
  cases gk with
  | zero => exact absurd HA.out (by simp [spec_l1Has.l0])
  | succ k1 =>
   have H := HA.out
   clear HA
   simp only [spec_l1Has.l0] at H
   by_cases c3 : x9_1 < (l0.length : Int)
   ·rw [if_pos c3] at H
    have c3b0 : decide (x9_1 < (l0.length : Int)) = true := decide_eq_true c3
    clear c3
    by_cases c4 : 0 ≤ x9_1
    ·rw [if_pos c4] at H
     have c4b0 : decide (0 ≤ x9_1) = true := decide_eq_true c4
     clear c4
     by_cases c5 : x9_1 < (l0.length : Int)
     ·rw [if_pos c5] at H
      have c5b0 : decide (x9_1 < (l0.length : Int)) = true := decide_eq_true c5
      clear c5
      by_cases c6 : (rd l0 x9_1) = a1
      ·rw [if_pos c6] at H
       have c6b0 : ((rd l0 x9_1) == a1) = true := beq_iff_eq.mpr c6
       have c6b1 : ((rd l0 x9_1) != a1) = false := bne_eq_false_iff_eq.mpr c6
       clear c6
       obtain rfl := Option.some.inj H
       have p147 : 0 ≤ (x9_1 : Int) := of_decide_eq_true (by assumption)
       have q147 : x9_1 < (l0.length : Int) := of_decide_eq_true (by assumption)
       obtain ⟨ad147, e147, hx147_0⟩ := Kd.at_int HR0.out x9_1 p147 q147
       cases e147
       replace p147 := eq_true p147
       replace q147 := eq_true q147
       go_wp2
       go_ret
       exact ⟨by first | rfl | (simp; done) | (simp [*]; done), by repeat (first | exact Drawn0.refl _ | apply Drawn0.step)⟩
      ·rw [if_neg c6] at H
       have c6b0 : ((rd l0 x9_1) == a1) = false := beq_eq_false_iff_ne.mpr c6
       have c6b1 : ((rd l0 x9_1) != a1) = true := bne_iff_ne.mpr c6
       have H' := Aside0.mk H
       clear H
       have p147 : 0 ≤ (x9_1 : Int) := of_decide_eq_true (by assumption)
       have q147 : x9_1 < (l0.length : Int) := of_decide_eq_true (by assumption)
       obtain ⟨ad147, e147, hx147_0⟩ := Kd.at_int HR0.out x9_1 p147 q147
       cases e147
       replace p147 := eq_true p147
       replace q147 := eq_true q147
       go_wp2
       go_roundg k1
       case measure => have := HK1.out; omega
       case rel => exact ⟨(wrap64 (x9_1 + 1)), zA, H', ⟨by have := HK1.out; omega⟩, by repeat (first | exact Drawn0.refl _ | apply Drawn0.step)⟩
     ·rw [if_neg c5] at H
      exact absurd H (by simp)
    ·rw [if_neg c4] at H
     exact absurd H (by simp)
   ·rw [if_neg c3] at H
    have c3b0 : decide (x9_1 < (l0.length : Int)) = false := decide_eq_false c3
    clear c3
    obtain rfl := Option.some.inj H
    go_wp2
    go_ret
    exact ⟨by first | rfl | (simp; done) | (simp [*]; done), by repeat (first | exact Drawn0.refl _ | apply Drawn0.step)⟩

end Go.Proofs.YtfkbjflndkjlnaaDoor.P
