import Derived.Test.YtlmobibbefjhfaaSd
namespace Go.Proofs.Ytlmobibbefjhfaa.S
open Go.RowKit Go.Proofs.YtlmobibbefjhfaaW.PrintWords Go.Proofs.YtlmobibbefjhfaaW.PrintLast Go.Proofs.YtlmobibbefjhfaaW.PrintMore
attribute [local go_sem] max2_int min2_int max_two min_two max_three min_three max_four min_four
set_option linter.unusedVariables false
set_option linter.unusedSimpArgs false

/-! ### impl_of: function 51 -/
/-- a square's cells -/
def ofE (q : S77) : List Value := [.int .i64 q.f0, .int .i64 q.f1, .int .i64 q.f2, .int .u64 q.f3]
theorem of_flat : ∀ (l : List S77) (j : Nat) (p : S77), l[j]? = some p → ((l.flatMap ofE).drop (j * 4)).take 4 = ofE p
 | [], j, p, h => by simp at h
 | q :: l, 0, p, h => by
  have : q = p := by simpa using h
  subst this
  simp [ofE]
 | q :: l, j + 1, p, h => by
  have e : (j + 1) * 4 = j * 4 + 1 + 1 + 1 + 1 := by omega
  rw [e, List.flatMap_cons]
  simp only [ofE, List.cons_append, List.nil_append, List.drop_succ_cons]
  exact of_flat l j p (by simpa using h)
theorem of_len : ∀ (l : List S77), (l.flatMap ofE).length = l.length * 4
 | [] => rfl
 | q :: l => by rw [List.flatMap_cons, List.length_append, of_len l]; simp [ofE]; omega
theorem of_row {W : World} {base : Nat} {v : Value} {l : List S77} (h : W.ownsRow base 77 4 v l.length (l.flatMap ofE)) : Kd.R k77 77 W base (fun _ => True) v l :=
 ⟨fun _ _ => trivial, l.flatMap ofE, h, of_len l, fun j p hj => by
  show k77.M W base _ p (((l.flatMap ofE).drop (j * 4)).take 4)
  rw [of_flat l j p hj]
  exact k77_mkM W base _ p⟩
theorem of_cells {w : World} {ad : Addr} {l : List S77} (h : Kd.C k77 w (some ad) l.length l) : ∀ (j : Nat) (u : Value), (l.flatMap ofE)[j]? = some u → w.cell? (ad.add j) = some u := by
 intro j u hj
 have hjl : j < l.length * 4 := by rw [← of_len]; exact (List.getElem?_eq_some_iff.1 hj).1
 obtain ⟨ad', e, hc⟩ := h.2.2 (by omega)
 obtain rfl := Option.some.inj e
 obtain ⟨p, hp⟩ : ∃ p, l[j / 4]? = some p := ⟨_, List.getElem?_eq_getElem (by omega)⟩
 obtain ⟨c, _, hK, hcc⟩ := hc _ p hp
 obtain rfl := k77_open hK
 have e2 := of_flat l (j / 4) p hp
 have e3 : (((l.flatMap ofE).drop (j / 4 * 4)).take 4)[j % 4]? = some u := by
  rw [List.getElem?_take, if_pos (by omega), List.getElem?_drop, show j / 4 * 4 + j % 4 = j by omega]
  exact hj
 rw [e2] at e3
 have := hcc (j % 4) u e3
 rwa [show j / 4 * k77.sz + j % 4 = j from by show j / 4 * 4 + j % 4 = j; omega] at this
set_option maxHeartbeats 2000000 in
theorem of_clone (A : Option Addr) (c : Nat) (l : List S77) (w : World) (hr : Kd.C k77 w A l.length l) (hl : l.length < 4398046511104) :
  Calls Try.prog 65 #[.slice A l.length c] w fun e w' => ∃ v, e = .returned v ∧ Kd.R k77 77 w' w.heap.size (fun _ => True) v l ∧ Below w.heap.size w w' := by
 have q22 : ∀ (w : World) (a : Option Addr) (n c n' c' : Nat), (binOp .eql 51 (.slice a n c) (.slice none n' c')).run Try.prog w = .ok (.bool a.isNone) w := fun w a n c n' c' => Lib.run_eql_slice_nil w _ _ a n c n' c' Try.underlying51
 cases A with
 | none =>
  have e : l = [] := by
   by_cases q : 0 < l.length
   ·obtain ⟨_, e, _⟩ := hr.2.2 q; cases e
   ·exact List.eq_nil_of_length_eq_zero (by omega)
  subst e
  clear hr hl
  go_enter Try.func65, Try.ntmps65
  go_wp2
  go_ret
  exact ⟨_, rfl, Kd.R_nil _ _ _ _ _, Below.refl _ _⟩
 | some ad =>
  have HC := Aside0.mk (of_cells hr)
  have HL := Aside0.mk (of_len l)
  have HM := Aside0.mk (Kd.C_max hr)
  have hone : ∀ u ∈ l.flatMap ofE, u.oneCell' = true := fun u hu => by
   obtain ⟨q, _, hq⟩ := List.mem_flatMap.1 hu
   simp only [ofE, List.mem_cons, List.not_mem_nil, or_false] at hq
   rcases hq with rfl | rfl | rfl | rfl <;> rfl
  have HN := Aside0.mk hone
  have HLT := Aside0.mk hl
  clear hr hone hl
  obtain ⟨i0, hi, hz⟩ := Option.map_eq_some_iff.1 info77
  simp only [Prod.mk.injEq] at hz
  obtain ⟨z1, z2, z3⟩ := hz
  have HI := Aside0.mk hi
  have HZ1 := Aside0.mk z1
  have HZ2 := Aside0.mk z2
  have HZ3 := Aside0.mk z3
  clear hi z1 z2 z3
  generalize hnn : l.length = n
  rw [hnn] at HL HM HLT
  have HE := Aside0.mk hnn
  clear hnn
  go_enter Try.func65, Try.ntmps65
  go_wp2_with (at_builtin; refine wpList_append_own _ rfl _ _ 51 rfl w.heap.size 77 i0 _ 4 32 Try.underlying51 HI.out HZ1.out HZ2.out HZ3.out rfl (by decide) _ _ _ rfl (World.ownsRow_made w #[] 0 (Nat.le_refl _) (Nat.zero_le _) (by simp)) ad n c (l.flatMap ofE) rfl ?qc1 ?qc2 ?qc3 ?qc4 ?qc5 ?qc6 ?_)
  case qc1 => exact HL.out
  case qc2 =>
   intro j u hj
   exact Lib.cell?_alloc_some _ (HC.out j u hj)
  case qc3 => exact HN.out
  case qc4 => rw [Nat.zero_add]; have := HLT.out; simp only [maxLen]; omega
  case qc5 => rw [Nat.zero_add]; have := HLT.out; omega
  case qc6 => simp
  intro v' w1 hown hgrow hnil
  go_wp2
  go_ret
  refine ⟨v', rfl, of_row ?_, ?_⟩
  ·rw [HE.out]
   simpa using hown
  ·exact ((Below.refl _ w).alloc (Nat.le_refl _) _).grown hgrow (by simp) (by intro k hk; simp [Value.ownBlock] at hk; omega)

/-- one square asked -/
theorem of_one (s : Int) (B : Nat) (q : S77) (W : World) (h1 : W.cell? ⟨B, 0, none⟩ = some (.int .u64 s)) :
  Calls Try.prog 66 #[.agg #[.int .i64 q.f0, .int .i64 q.f1, .int .i64 q.f2, .int .u64 q.f3], .pointer (some ⟨B, 0, none⟩)] W fun e W' => e = .returned (.bool (!ofP s q)) ∧ Below W.heap.size W W' := by
 have hB : B < W.heap.size := by
  rcases Nat.lt_or_ge B W.heap.size with h | h
  ·exact h
  ·simp [World.cell?, Array.getElem?_eq_none h] at h1
 have hne : B ≠ W.heap.size := by omega
 have HN := Aside0.mk (show (Go.bits .andNot .u64 q.f3 s != 0) = !ofP s q from rfl)
 go_enter Try.func66, Try.ntmps66
 go_wp2
 all_goals (go_ret; exact ⟨by rw [← HN.out]; rfl, (Below.refl _ W).alloc (Nat.le_refl _) _⟩)
/-- an index that tells the first square that is not wanted -/
structure OfTells (l : List S77) (s : Int) (i : Int) : Prop where mk :: (out : (i = -1 ∧ ∀ j : Nat, j < l.length → ofP s (rd_T77 l j) = true) ∨ ∃ k : Nat, i = k ∧ k < l.length ∧ ofP s (rd_T77 l k) = false ∧ ∀ j : Nat, j < k → ofP s (rd_T77 l j) = true)
set_option maxHeartbeats 2000000 in
theorem of_idx (s : Int) (B : Nat) (A : Option Addr) (c : Nat) (l : List S77) (w : World) (hr : Kd.C k77 w A l.length l) (hc : w.cell? ⟨B, 0, none⟩ = some (.int .u64 s)) :
  Calls Try.prog 68 #[.slice A l.length c, .func (.func 66) #[] #[.pointer (some ⟨B, 0, none⟩)]] w fun e w' => (∃ i : Int, e = .returned (.int .i64 i) ∧ OfTells l s i) ∧ Below w.heap.size w w' := by
 have hbig : l.length ≤ 9223372036854775807 := Kd.C_max hr
 have HR := Aside0.mk hr
 have HC := Aside0.mk hc
 clear hr hc
 go_enter Try.func68, Try.ntmps68
 go_wp2
 go_loopg [5, 8] l.length (fun gg _ s8 wr => ∃ kk : Nat, kk ≤ l.length ∧ l.length - kk ≤ gg ∧ s8 = .int .i64 kk ∧ Aside0 (Below w.heap.size w wr) ∧ Aside0 (∀ j : Nat, j < kk → ofP s (rd_T77 l j) = true))
 case atStart => exact ⟨0, Nat.zero_le _, by omega, rfl, ⟨Below.refl _ _⟩, ⟨fun j hj => absurd hj (Nat.not_lt_zero _)⟩⟩
 case round =>
  obtain ⟨kk, hkk, hg, rfl, HB, A0⟩ := hrel
  by_cases hlt : kk < l.length
  ·have hltz : (kk : Int) < (l.length : Int) := by omega
   obtain ⟨ad, rfl, c0, c1, c2, c3⟩ := at_T77 (Kd.C_below HR.out HB.out) kk (by omega) hltz
   rw [Int.toNat_natCast] at c0 c1 c2 c3
   generalize hy : rd_T77 l kk = y at c0 c1 c2 c3
   have HY := Aside0.mk hy
   have HLT := Aside0.mk hlt
   clear hy
   obtain ⟨b, hb⟩ : ∃ b, ofP s y = b := ⟨_, rfl⟩
   have C : ∀ W, Below wr.heap.size wr W → Calls Try.prog 66 #[.agg #[.int .i64 y.f0, .int .i64 y.f1, .int .i64 y.f2, .int .u64 y.f3], .pointer (some ⟨B, 0, none⟩)] W fun e W' => e = .returned (.bool (!b)) ∧ Below W.heap.size W W' := fun W hW => by
    have := of_one s B y W (pw_cell_below (below_step HB.out hW) HC.out)
    rw [hb] at this
    exact this
   have HQ := Aside0.mk hb
   clear hb
   cases b with
   | false =>
    go_wp2_with (go_at_call 66; refine (C _ (Below.refl _ _)).mono ?_; rintro e w' ⟨rfl, hb⟩)
    go_ret
    exact ⟨⟨_, rfl, ⟨.inr ⟨kk, rfl, HLT.out, by rw [HY.out]; exact HQ.out, A0.out⟩⟩⟩, below_step HB.out hb⟩
   | true =>
    go_wp2_with (go_at_call 66; refine (C _ (Below.refl _ _)).mono ?_; rintro e w' ⟨rfl, hb⟩)
    go_roundg (l.length - (kk + 1))
    case measure => have := HLT.out; omega
    case rel =>
     refine ⟨kk + 1, by have := HLT.out; omega, by omega, by go_num, ⟨below_step HB.out hb⟩, ⟨fun j hj => ?_⟩⟩
     by_cases e : j = kk
     ·subst e
      rw [HY.out]; exact HQ.out
     ·exact A0.out j (by omega)
  ·have hltz : ¬ (kk : Int) < (l.length : Int) := by omega
   have : kk = l.length := by omega
   subst this
   go_wp2
   go_ret
   exact ⟨⟨_, rfl, ⟨.inl ⟨rfl, A0.out⟩⟩⟩, HB.out⟩
theorem of_none {l : List S77} {s : Int} (h : ∀ j : Nat, j < l.length → ofP s (rd_T77 l j) = true) : l.filter (ofP s) = l := by
 rw [List.filter_eq_self]
 intro x hx
 obtain ⟨j, hj, rfl⟩ := List.getElem_of_mem hx
 have := h j hj
 rwa [show rd_T77 l (j : Int) = l[j] by simp [rd_T77, hj]] at this
theorem of_ex (l : List S77) (s : Int) : ∃ i, OfTells l s i := by
 have h : ∀ d : Nat, d ≤ l.length → (∀ j : Nat, j < d → ofP s (rd_T77 l j) = true) ∨ ∃ k : Nat, k < d ∧ ofP s (rd_T77 l k) = false ∧ ∀ j : Nat, j < k → ofP s (rd_T77 l j) = true := by
  intro d
  induction d with
  | zero => exact fun _ => .inl fun j hj => absurd hj (Nat.not_lt_zero _)
  | succ d ih =>
   intro hd
   rcases ih (by omega) with a | ⟨k, k1, k2, k3⟩
   ·by_cases q : ofP s (rd_T77 l d) = true
    ·refine .inl fun j hj => ?_
     by_cases e : j = d
     ·subst e; exact q
     ·exact a j (by omega)
    ·exact .inr ⟨d, by omega, by simpa using q, a⟩
   ·exact .inr ⟨k, by omega, k2, k3⟩
 rcases h l.length (Nat.le_refl _) with a | ⟨k, k1, k2, k3⟩
 ·exact ⟨-1, ⟨.inl ⟨rfl, a⟩⟩⟩
 ·exact ⟨k, ⟨.inr ⟨k, rfl, k1, k2, k3⟩⟩⟩
theorem of_uni {l : List S77} {s i i' : Int} (h : OfTells l s i) (h' : OfTells l s i') : i = i' := by
 rcases h.out with ⟨rfl, a⟩ | ⟨k, rfl, k1, k2, k3⟩ <;> rcases h'.out with ⟨rfl, a'⟩ | ⟨k', rfl, k1', k2', k3'⟩
 ·rfl
 ·rw [a k' k1'] at k2'; cases k2'
 ·rw [a' k k1] at k2; cases k2
 ·rcases Nat.lt_trichotomy k k' with q | rfl | q
  ·rw [k3' k q] at k2; cases k2
  ·rfl
  ·rw [k3 k' q] at k2'; cases k2'
theorem of_put {xs : List S77} {i : Nat} {y : S77} (h : i < xs.length) : (xs.set i y).take (i + 1) = xs.take i ++ (if true = true then [y] else []) := by
 rw [List.take_add_one, List.take_set_of_le (Nat.le_refl _), List.getElem?_set_self h]
 simp
theorem of_new (w : World) (o : Obj) : (w.alloc o).heap[w.heap.size]? = some o := by
 show (w.heap.push o)[w.heap.size]? = some o
 simp
theorem of_far {w w' : World} {g B : Nat} {v : Value} (h : w.grownBy w' (some g)) (hB : B ≠ g) (hc : w.cell? ⟨B, 0, none⟩ = some v) : w'.cell? ⟨B, 0, none⟩ = some v := by
 have hlt : B < w.heap.size := by
  rcases Nat.lt_or_ge B w.heap.size with h | h
  ·exact h
  ·simp [World.cell?, Array.getElem?_eq_none h] at hc
 rw [World.cell?_of_block (h.block B hlt (by simpa using hB))]
 exact hc
theorem of_rd {l : List S77} {j : Nat} {y : S77} (h : l[j]? = some y) : rd_T77 l (j : Int) = y := by
 simp [rd_T77, h]
theorem of_next {l : List S77} {s : Int} {j : Nat} {y : S77} (h : l[j]? = some y) : (l.take (j + 1)).filter (ofP s) = (l.take j).filter (ofP s) ++ (if ofP s y then [y] else []) := by
 rw [List.take_add_one, h, List.filter_append]
 congr 1
 by_cases q : ofP s y = true
 ·simp [q]
 ·simp [q]
theorem of_start {l : List S77} {s : Int} {k : Nat} (hk : k < l.length) (hnot : ofP s (rd_T77 l k) = false) (hall : ∀ j : Nat, j < k → ofP s (rd_T77 l j) = true) : l.take k = (l.take (k + 1)).filter (ofP s) := by
 have h : l[k]? = some l[k] := List.getElem?_eq_getElem hk
 rw [of_next h, ← of_rd h, hnot]
 rw [of_none (l := l.take k)]
 ·simp
 ·intro j hj
  have hjk : j < k := by rw [List.length_take] at hj; omega
  have h2 : l[j]? = some l[j] := List.getElem?_eq_getElem (by omega)
  have h3 : (l.take k)[j]? = some l[j] := by rw [List.getElem?_take, if_pos hjk, h2]
  rw [of_rd h3, ← of_rd h2]
  exact hall j hjk
/-- the zero values of m squares -/
def ofZ (m : Nat) : List Value := (Builtin.zeroCells (Value.agg #[.int .i64 0, .int .i64 0, .int .i64 0, .int .u64 0]).cells m).toList
theorem ofZ_len (m : Nat) : (ofZ m).length = m * 4 := by simp [ofZ, Builtin.zeroCells, Value.cells]
theorem ofZ_one (m : Nat) : ∀ u ∈ ofZ m, u.oneCell' = true := by
 intro u hu
 obtain ⟨j, hj, rfl⟩ := List.getElem_of_mem hu
 have h4 : j % 4 < 4 := Nat.mod_lt _ (by omega)
 have : (ofZ m)[j] = (#[Value.int .i64 0, .int .i64 0, .int .i64 0, .int .u64 0] : Array Value)[j % 4]! := by
  simp [ofZ, Builtin.zeroCells, Value.cells]
 rw [this]
 generalize j % 4 = q at h4 ⊢
 match q, h4 with
 | 0, _ => rfl
 | 1, _ => rfl
 | 2, _ => rfl
 | 3, _ => rfl
theorem of_cut {W : World} {base : Nat} {ok : Nat → Prop} {g n c : Nat} {xs : List S77} (h : Kd.R k77 77 W base ok (.slice (some ⟨g, 0, none⟩) n c) xs) (i : Nat) (hi : i < n) :
  (∀ ty, (Builtin.clear_ #[51] ty #[.slice (some ⟨g, i * 4, none⟩) (n - i) (c - i)]).run Try.prog W = .ok (.tuple #[]) (W.setCells g (i * 4) (ofZ (n - i)))) ∧ Kd.R k77 77 (W.setCells g (i * 4) (ofZ (n - i))) base ok (.slice (some ⟨g, 0, none⟩) i c) (xs.take i) ∧ W.grownBy (W.setCells g (i * 4) (ofZ (n - i))) (some g) := by
 have hxs : n = xs.length := (Kd.R_reads' h).1
 have hnc2 : n ≤ c := (Kd.R_reads' h).2.1
 have hlen : (xs.take i).length = i := by rw [List.length_take]; omega
 obtain ⟨h0, inner, ⟨ho1, ho2⟩, hr⟩ := Kd.R_take (m := i) h (by omega)
 rcases ho2 with ⟨hv, _⟩ | ⟨g', cap', cur, hv, hb, hh, hnc, hcm, hcs, ht⟩
 ·cases hv
 injection hv with ha _ hc'
 injection ha with ha
 injection ha with hg
 subst hg; subst hc'
 have hcs4 : cur.size = c * 4 := hcs
 have ht4 : cur.toList.take ((xs.take i).length * 4) = inner := ht
 have hL := ofZ_len (n - i)
 obtain ⟨cur', h3, h4, h5⟩ := setCells_row (ofZ (n - i)) (i * 4) W cur hh (by omega)
 obtain ⟨s1, s2, s3, s4⟩ := setCells_same g (ofZ (n - i)) (i * 4) W
 refine ⟨fun ty => ?_, ⟨h0, inner, ⟨ho1, .inr ⟨g, c, cur', by rw [hlen], hb, h3, hnc, hcm, by rw [h4, hcs], ?_⟩⟩, hr.imp_ (fun p q hp => k77.M_move (fun k hk => setCells_far _ _ k (fun e => hk.2 (by rw [e]; rfl))) hp)⟩, ⟨s1, s2, s3, by rw [s4]; exact Nat.le_refl _, fun k _ hk => setCells_far _ _ k (fun e => hk (by rw [e]))⟩⟩
 ·have hst := run_storeCells_cells (P := Try.prog) g (i * 4) (ofZ (n - i)) 0 W (fun j hj => by
   rw [cell_of_row W g _ cur _ (0, 0) hh, Array.getElem?_eq_getElem (by omega)]; rfl) (fun j hj => blk_frozen hh _) (ofZ_one _)
  rw [Nat.add_zero] at hst
  obtain ⟨m, hm⟩ : ∃ m, n - i = m + 1 := ⟨n - i - 1, by omega⟩
  rw [hm] at hst ⊢
  have hz := Try.zeroValue77
  have hst' : (storeCells ⟨g, i * 4, none⟩ (Builtin.zeroCells (Value.agg #[.int .i64 0, .int .i64 0, .int .i64 0, .int .u64 0]).cells (m + 1)).toList).run Try.prog W = .ok () (W.setCells g (i * 4) (ofZ (m + 1))) := hst
  clear hst
  simp [Builtin.clear_, run_underlying Try.underlying51, hz, hst']
 ·show cur'.toList.take ((xs.take i).length * 4) = inner
  rw [← ht4, hlen, h5, List.append_assoc, List.take_append_of_le_length (by rw [List.length_take, Array.length_toList]; omega), List.take_take, Nat.min_self]
set_option maxHeartbeats 4000000 in
theorem of_del (s : Int) (B : Nat) (v : Value) (l : List S77) (w0 w : World) (hr : Kd.R k77 77 w w0.heap.size (fun _ => True) v l) (hB : Below w0.heap.size w0 w) (hc : w.cell? ⟨B, 0, none⟩ = some (.int .u64 s)) (hne : ∀ k, v.ownBlock = some k → B ≠ k) :
  Calls Try.prog 64 #[v, .func (.func 66) #[] #[.pointer (some ⟨B, 0, none⟩)]] w fun e w' => ∃ v', e = .returned v' ∧ Kd.R k77 77 w' w0.heap.size (fun _ => True) v' (l.filter (ofP s)) ∧ Below w0.heap.size w0 w' := by
 obtain ⟨A, c, rfl, hcl, hC⟩ := Kd.R_reads hr
 obtain ⟨i, HI⟩ := of_ex l s
 have hI := (of_idx s B A c l w hC hc).mono (R' := fun e w' => e = .returned (.int .i64 i) ∧ Below w.heap.size w w') (by
  rintro e w1 ⟨⟨i', rfl, HI'⟩, hb⟩
  exact ⟨by rw [of_uni HI' HI], hb⟩)
 have HR := Aside0.mk hr
 have HB := Aside0.mk hB
 have HC := Aside0.mk hc
 have hbig : l.length ≤ 9223372036854775807 := Kd.C_max hC
 clear hr hB hc hC
 rcases HI.out with ⟨rfl, hall⟩ | ⟨k, rfl, hk, hnot, hall⟩
 ·have HA := Aside0.mk hall
  clear hall HI
  go_enter Try.func64, Try.ntmps64
  go_wp2_with (go_at_call 68; refine hI.mono ?_; rintro e w1 ⟨rfl, hb⟩)
  go_ret
  exact ⟨_, rfl, by rw [of_none HA.out]; exact Kd.R_below HR.out hb, below_step HB.out hb⟩
 ·have hne1 : ((k : Int) == -1) = false := beq_eq_false_iff_ne.2 (by omega)
  have HA := Aside0.mk hall
  have HNOT := Aside0.mk hnot
  obtain ⟨g, cap, e, gb, gl, gc⟩ := Kd.R_form HR.out (by omega)
  have hBg : B ≠ g := hne g (by rw [e]; rfl)
  cases e
  clear hall HI hnot gb gl gc hne
  obtain ⟨n, hn⟩ : ∃ n, n = l.length := ⟨_, rfl⟩
  rw [← hn] at hI HR hbig hk hcl
  have HN := Aside0.mk hn
  rw [← hn]
  clear hn
  have HK := Aside0.mk hk
  clear hk
  go_enter Try.func64, Try.ntmps64
  go_wp2_with (go_at_call 68; refine hI.mono ?_; rintro e w1 ⟨rfl, hb⟩)
  have HB1 := Aside0.mk (below_step HB.out hb)
  have HR1 := Aside0.mk (Kd.R_below HR.out hb)
  have HC1 := Aside0.mk (pw_cell_below hb HC.out)
  clear hb HR HB HC hI
  go_loopg [5, 6] n (fun gg s5 s6 wr => ∃ (ii jj : Nat) (xs : List S77), s5 = .int .i64 ii ∧ s6 = .int .i64 jj ∧ ii < jj ∧ jj ≤ n ∧ n - jj ≤ gg ∧ Aside0 (xs.length = n) ∧ Aside0 (Kd.R k77 77 wr w0.heap.size (fun _ => True) (.slice (some ⟨g, 0, none⟩) n c) xs) ∧ Aside0 (Below w0.heap.size w0 wr) ∧ Aside0 (wr.cell? ⟨B, 0, none⟩ = some (.int .u64 s)) ∧ Aside0 (xs.take ii = (l.take jj).filter (ofP s)) ∧ Aside0 (∀ m : Nat, jj ≤ m → xs[m]? = l[m]?))
  case atStart => exact ⟨k, k + 1, l, rfl, by have := HK.out; (congr 1 <;> (unfold wrap64; omega)), by omega, by have := HK.out; omega, by omega, ⟨HN.out.symm⟩, HR1, HB1, HC1, ⟨of_start (by have := HK.out; have := HN.out; omega) HNOT.out HA.out⟩, ⟨fun _ _ => rfl⟩⟩
  case round =>
   clear HR1 HB1 HC1 HA HNOT
   obtain ⟨ii, jj, xs, rfl, rfl, hij, hjn, hg, XL, XR, XB, XC, XT, XD⟩ := hrel
   by_cases hlt : jj < n
   ·have hltz : (jj : Int) < (n : Int) := by omega
    obtain ⟨y, hy⟩ : ∃ y, l[jj]? = some y := ⟨_, List.getElem?_eq_getElem (by have := HN.out; omega)⟩
    have hxy : xs.getD (jj : Int).toNat z77 = y := by rw [Int.toNat_natCast, List.getD_eq_getElem?_getD, XD.out jj (Nat.le_refl _), hy]; rfl
    obtain ⟨c', hcl', hM, hcc, hfr⟩ := Kd.R_elem XR.out z77 (jj : Int) (by omega) hltz
    rw [hxy] at hM
    obtain rfl := k77_openM hM
    have k0 : wr.cell? ⟨g, (jj : Int).toNat * 4 + 0, none⟩ = some _ := hcc 0 _ rfl
    have k1 : wr.cell? ⟨g, (jj : Int).toNat * 4 + 1, none⟩ = some _ := hcc 1 _ rfl
    have k2 : wr.cell? ⟨g, (jj : Int).toNat * 4 + 2, none⟩ = some _ := hcc 2 _ rfl
    have k3 : wr.cell? ⟨g, (jj : Int).toNat * 4 + 3, none⟩ = some _ := hcc 3 _ rfl
    rw [Int.toNat_natCast] at k0 k1 k2 k3
    rw [Nat.add_zero] at k0
    have HY := Aside0.mk hy
    clear hy hxy hM hcc hfr hcl'
    obtain ⟨b, hb⟩ : ∃ b, ofP s y = b := ⟨_, rfl⟩
    have hcall := of_one s B y (wr.alloc (.cells #[.int .i64 y.f0, .int .i64 y.f1, .int .i64 y.f2, .int .u64 y.f3] 77)) (pw_cell_below (below_alloc (Below.refl _ _) _) XC.out)
    rw [hb] at hcall
    have HQ := Aside0.mk hb
    clear hb
    cases b with
    | false =>
     go_wp2_with fail
     refine hcall.mono ?_
     rintro e w2 ⟨rfl, hb2⟩
     have XR2 := Aside0.mk (Kd.R_below (Kd.R_alloc XR.out _) hb2)
     have XB2 := Aside0.mk (below_step (below_alloc XB.out _) hb2)
     have XC2 := Aside0.mk (pw_cell_below hb2 (pw_cell_below (below_alloc (Below.refl _ _) _) XC.out))
     clear hb2 hcall
     go_wp2
     go_roundg (n - (jj + 1))
     case measure => omega
     case rel => exact ⟨ii, jj + 1, xs, rfl, by (congr 1 <;> (unfold wrap64; omega)), by omega, by omega, by omega, XL, XR2, XB2, XC2, ⟨by rw [of_next HY.out, HQ.out]; simpa using XT.out⟩, ⟨fun m hm => XD.out m (by omega)⟩⟩
    | true =>
     go_wp2_with fail
     refine hcall.mono ?_
     rintro e w2 ⟨rfl, hb2⟩
     have XR2 := Aside0.mk (Kd.R_below (Kd.R_alloc XR.out _) hb2)
     have XB2 := Aside0.mk (below_step (below_alloc XB.out _) hb2)
     have XC2 := Aside0.mk (pw_cell_below hb2 (pw_cell_below (below_alloc (Below.refl _ _) _) XC.out))
     have hbx : w2.heap[wr.heap.size]? = some (.cells #[.int .i64 y.f0, .int .i64 y.f1, .int .i64 y.f2, .int .u64 y.f3] 77 (0, 0)) := (hb2.block _ (by simp)).trans (of_new _ _)
     have b0 : w2.cell? ⟨wr.heap.size, 0, none⟩ = some (.int .i64 y.f0) := (blk_cell hbx 0).trans rfl
     have b1 : w2.cell? ⟨wr.heap.size, 1, none⟩ = some (.int .i64 y.f1) := (blk_cell hbx 1).trans rfl
     have b2 : w2.cell? ⟨wr.heap.size, 2, none⟩ = some (.int .i64 y.f2) := (blk_cell hbx 2).trans rfl
     have b3 : w2.cell? ⟨wr.heap.size, 3, none⟩ = some (.int .u64 y.f3) := (blk_cell hbx 3).trans rfl
     obtain ⟨cc, hcl2, hM2, hcc2, hfr2⟩ := Kd.R_elem XR2.out z77 (ii : Int) (by omega) (by omega)
     have HCL := Aside0.mk hcl2
     have HCC := Aside0.mk hcc2
     have HMM := Aside0.mk (show k77.M w2 w0.heap.size (fun _ => False) y (cc.take 0 ++ ofE y ++ cc.drop (0 + (ofE y).length)) by
      rw [List.take_zero, List.nil_append, List.drop_of_length_le (by rw [hcl2]; exact Nat.le_refl 4), List.append_nil]; exact k77_mkM _ _ _ y)
     have HON := Aside0.mk (show ∀ u ∈ ofE y, u.oneCell' = true from fun u hu => by
      simp only [ofE, List.mem_cons, List.not_mem_nil, or_false] at hu
      rcases hu with rfl | rfl | rfl | rfl <;> rfl)
     have hltz2 : (ii : Int) < (n : Int) := by omega
     clear hb2 hcall hbx k0 k1 k2 k3 hcl2 hM2 hcc2 hfr2
     generalize wr.heap.size = gx at b0 b1 b2 b3 ⊢
     go_wp2_with ((with_reducible refine gate_store (t := 77) (p := 33) rfl ?_); refine Kd.R_store k77 (w0 := w0) w0.heap.size rfl rfl 77 _ _ rfl 77 (n := n) (cap := c) (ii : Int) 0 xs y _ (ofE y) cc (fun _ => True) (fun _ => False) rfl (show ii * 4 = (ii : Int).toNat * 4 + 0 by rw [Int.toNat_natCast]; rfl) rfl rfl (by kernel_rfl) HON.out XR2.out (Int.natCast_nonneg _) hltz2 HCL.out HCC.out (by show 0 + 4 ≤ 4; omega) HMM.out (fun _ h => h.elim) XB2.out ?_; intro w3 hrow hb3 hg3; rw [Int.toNat_natCast] at hrow; have XR3 := Aside0.mk hrow; have XB3 := Aside0.mk hb3; have XC3 := Aside0.mk (of_far hg3 hBg XC2.out); clear hrow hb3 hg3)
     go_roundg (n - (jj + 1))
     case measure => omega
     case rel => exact ⟨ii + 1, jj + 1, xs.set ii y, by (congr 1 <;> (unfold wrap64; omega)), by (congr 1 <;> (unfold wrap64; omega)), by omega, by omega, by omega, ⟨by rw [List.length_set]; exact XL.out⟩, XR3, XB3, XC3, ⟨by rw [of_next HY.out, HQ.out, ← XT.out]; exact of_put (by have := XL.out; omega)⟩, ⟨fun m hm => by rw [List.getElem?_set_ne (by omega)]; exact XD.out m (by omega)⟩⟩
   ·have hjn2 : jj = n := by omega
    subst hjn2
    have hltz : ¬ (jj : Int) < (jj : Int) := by omega
    obtain ⟨hcl, hRc, hgc⟩ := of_cut XR.out ii hij
    have XR4 := Aside0.mk hRc
    have XB4 := Aside0.mk (below_step XB.out (Below.refl _ _))
    have XG4 := Aside0.mk hgc
    clear hRc hgc
    have hic : (ii : Int) ≤ (jj : Int) := by omega
    have HX := Aside0.mk (show l.filter (ofP s) = xs.take ii by rw [XT.out, List.take_of_length_le (by have := HN.out; omega)])
    have HG := Aside0.mk (Kd.R_base XR.out g rfl)
    go_wp2
    go_ret
    exact ⟨_, rfl, by rw [HX.out]; exact XR4.out, XB.out.grown XG4.out XB.out.size (by intro k hk; have := HG.out; simp at hk; omega)⟩
set_option maxHeartbeats 2000000 in
theorem impl_of.calls (A0 : Option Addr) (c0 : Nat) (l0 : List (S77)) (a1 : Int) (r : List (S77)) (w : World) (hr0 : Kd.C k77 w A0 l0.length l0) (hc0 : l0.length ≤ c0) (h : impl_of.f l0 a1 = some r) :
  Calls Try.prog 51 #[.slice A0 l0.length c0, .int .u64 a1] w fun e w' => ∃ v0_ : Value, e = .returned (v0_) ∧ Kd.R k77 77 w' w.heap.size (fun _ => True) v0_ r ∧ Below w.heap.size w w' := by
 unfold impl_of.f at h
 by_cases hl : l0.length < 4398046511104
 ·rw [if_pos hl] at h
  obtain rfl := Option.some.inj h
  have HC := of_clone A0 c0 l0 (w.alloc (.cells #[.int .u64 a1] 54)) (Kd.C_alloc hr0 _) hl
  have HW := Aside0.mk (show (w.alloc (.cells #[.int .u64 a1] 54)).cell? ⟨w.heap.size, 0, none⟩ = some (.int .u64 a1) from (blk_cell (of_new w _) 0).trans rfl)
  clear hr0 h hl
  have hmf : ∀ (fn : Fn) (first cap : Array Value) (w : World), (Instr.makeFunc fn first cap).run Try.prog w = .ok (.func fn first cap) w := fun _ _ _ _ => rfl
  go_enter Try.func51, Try.ntmps51
  go_wp2_with fail
  refine HC.mono ?_
  rintro e w1 ⟨v, rfl, hR, hb⟩
  have D := of_del a1 w.heap.size v l0 w w1 (Kd.R_lower hR (by simp)) (below_step (below_alloc (Below.refl _ _) _) hb) (pw_cell_below hb HW.out) (fun k hk => by have := Kd.R_base hR k hk; simp at this; omega)
  clear hR hb HC HW
  go_wp2_with fail
  refine D.mono ?_
  rintro e w2 ⟨v2, rfl, hR, hb⟩
  have H1 := Aside0.mk hR
  have H2 := Aside0.mk hb
  clear hR hb D
  go_wp2
  go_ret
  exact ⟨_, rfl, H1.out, H2.out⟩
 ·rw [if_neg hl] at h
  cases h

/-! ### impl_needless: function 29 -/
set_option maxHeartbeats 8000000 in
set_option maxRecDepth 100000 in
theorem impl_needless.calls (k : Nat) (A0 : Option Addr) (c0 : Nat) (l0 : List (S77)) (a1 : Int) (r : Int) (w : World) (hr0 : Kd.C k77 w A0 l0.length l0) (hc0 : l0.length ≤ c0) (h : impl_needless.f k l0 a1 = some r) :
  Calls Try.prog 29 #[.slice A0 l0.length c0, .int .u64 a1] w fun e w' => e = .returned (.int .u64 r) ∧ Below w.heap.size w w' := by
 have hu77 := Try.underlying77
 have HR0 := Aside0.mk hr0
 have HC0 := Aside0.mk hc0
 clear hr0 hc0
 have HB := Aside0.mk (Below.refl w.heap.size w)
 have H : ((impl_of.f l0 a1).bind fun t256 => (impl_needless.l0 k a1 t256 (t256.length : Int) 0)) = some r := h
 clear h
 replace H := Option.bind_eq_some_iff.mp H
 obtain ⟨t256, A30, H⟩ := H
 replace H : (impl_needless.l0 k a1 t256 (t256.length : Int) 0) = some r := H
 have A3 := Aside0.mk A30
 clear A30
 have H' := Aside0.mk H
 clear H
 go_enter Try.func29, Try.ntmps29
 go_wp2_with (first | ((with_reducible refine gate_callee (f := 51) rfl ?_); refine goesL_ (some 11) rfl rfl Try.func51 (by kernel_rfl) rfl #[.slice A0 l0.length c0, .int .u64 a1] rfl zM ?_; (with_reducible refine (impl_of.calls _ _ l0 a1 t256 _ ?side1 ?side2 A3.out).mono ?_); (case side1 => repeat (first | exact HR0.out | (with_reducible refine Kd.C_alloc ?_ _) | (with_reducible refine Kd.C_drewN ?_ _) | (with_reducible refine Kd.C_drew ?_))); (case side2 => exact HC0.out); rintro e w4 ⟨v257, rfl, ho0, hb⟩; refine ⟨_, rfl, ?_⟩; have HO258 := Aside0.mk (Kd.R_lower ho0 (below_size zB)); replace HB := zBb hb; (try clear hb); (try clear hb2); (try clear hk); (try clear hi); (try clear ho0); obtain ⟨Ao5, co5, eo5⟩ := Kd.R_slice HO258.out; subst eo5))
 go_loopg [5, 13] k (fun kq v5 v13 w' => ∃ (x5_1 : Int) (x13_1 : Int), v5 = .int .u64 x5_1 ∧ v13 = .int .i64 x13_1 ∧ Aside0 (impl_needless.l0 kq x5_1 t256 (t256.length : Int) x13_1 = some r) ∧ Aside0 (kq ≤ k) ∧ Aside0 (Kd.R k77 77 w' w.heap.size (fun _ => True) (.slice Ao5 t256.length co5) t256) ∧ Aside0 (Below w.heap.size w w'))
 case atStart => exact ⟨(a1), (0), zA, zA, H', ⟨Nat.le_refl _⟩, ⟨zR HO258⟩, ⟨zB⟩⟩
 case round =>
  clear H'
  (try clear c2); (try clear p2); (try clear c5)
  obtain ⟨x5_1, x13_1, rfl, rfl, HA, HK1, HO_11, HB⟩ := hrel
  cases gk with
  | zero => exact absurd HA.out (by simp [impl_needless.l0])
  | succ k1 =>
   have H := HA.out
   clear HA
   simp only [impl_needless.l0] at H
   by_cases c6 : x13_1 < (t256.length : Int)
   ·rw [if_pos c6] at H
    have c6b0 : decide (x13_1 < (t256.length : Int)) = true := decide_eq_true c6
    clear c6
    by_cases c7 : 0 ≤ x13_1
    ·rw [if_pos c7] at H
     have c7b0 : decide (0 ≤ x13_1) = true := decide_eq_true c7
     clear c7
     by_cases c8 : x13_1 < (t256.length : Int)
     ·rw [if_pos c8] at H
      have c8b0 : decide (x13_1 < (t256.length : Int)) = true := decide_eq_true c8
      clear c8
      have H' := Aside0.mk H
      clear H
      have p259 : 0 ≤ (x13_1 : Int) := of_decide_eq_true (by assumption)
      have q259 : x13_1 < (t256.length : Int) := of_decide_eq_true (by assumption)
      obtain ⟨ad259, e259, hx259_0, hx259_1, hx259_2, hx259_3⟩ := at_T77 (Kd.R_reads' HO_11.out).2.2 x13_1 p259 q259
      cases e259
      replace p259 := eq_true p259
      replace q259 := eq_true q259
      go_wp2_with (first | ((with_reducible refine gate_dst (N := 7) rfl ?_); refine box_event ?hg (N := 7) ?hd (cs := #[.int .i64 0, .int .i64 0, .int .i64 0, .int .u64 0]) (t := 77) ?hr ?_; (case hd => rfl); (case hg => rfl); (case hr => first | (go_simp; done) | (go_simp; rfl)); intro gb260 hg w9 hbox hb; replace HO_11 := Aside0.mk (Kd.R_below (Kd.R_elderB (zR HO_11) gb260 (Nat.le_of_eq hg.symm)) hb); have BK260 := Aside0.mk (hbox); have GW260 := Aside0.mk ((by rw [hg]; exact (below_size zB) : w.heap.size ≤ gb260)); have GE260 := Aside0.mk ((by rw [hg]; exact (below_size zB) : w.heap.size ≤ gb260)); replace HB := zBb hb; clear hb hbox hg; obtain ⟨hcz10_0, hcz10_1, hcz10_2, hcz10_3, hfz10_0, hfz10_1, hfz10_2, hfz10_3⟩ := blk4 BK260))
      go_roundg k1
      case measure => have := HK1.out; omega
      case rel => exact ⟨(Go.bits .andNot .u64 x5_1 ((rd_T77 t256 x13_1).f3)), (wrap64 (x13_1 + 1)), zA, zA, H', ⟨by have := HK1.out; omega⟩, ⟨by (with_reducible repeat (first | apply Kd.R_alloc | apply Kd.R_drewN | apply Kd.R_drew)); exact Kd.R_mono (Kd.R_far (p := ⟨gb260, 3, none⟩) (Kd.R_far (p := ⟨gb260, 2, none⟩) (Kd.R_far (p := ⟨gb260, 1, none⟩) (Kd.R_far (p := ⟨gb260, 0, none⟩) (Kd.R_mono HO_11.out (fun k_ hk => (⟨hk, hk.2⟩ : _ ∧ k_ ≠ gb260))) (fun _ hk => hk.2) (.int .i64 ((rd_T77 t256 x13_1).f0))) (fun _ hk => hk.2) (.int .i64 ((rd_T77 t256 x13_1).f1))) (fun _ hk => hk.2) (.int .i64 ((rd_T77 t256 x13_1).f2))) (fun _ hk => hk.2) (.int .u64 ((rd_T77 t256 x13_1).f3))) (fun _ hk => trivial)⟩, ⟨zB⟩⟩
     ·rw [if_neg c8] at H
      exact absurd H (by simp)
    ·rw [if_neg c7] at H
     exact absurd H (by simp)
   ·rw [if_neg c6] at H
    have c6b0 : decide (x13_1 < (t256.length : Int)) = false := decide_eq_false c6
    clear c6
    obtain rfl := Option.some.inj H
    go_wp2
    go_ret
    exact ⟨by first | rfl | (simp [errW_none, errW_some] <;> rfl) | (simp [*, errW_none, errW_some] <;> rfl), by repeat (first | (with_reducible first | exact HB.out | apply below_alloc | apply pw_below_drewN | apply below_drew1) | exact HB.out)⟩

end Go.Proofs.Ytlmobibbefjhfaa.S
