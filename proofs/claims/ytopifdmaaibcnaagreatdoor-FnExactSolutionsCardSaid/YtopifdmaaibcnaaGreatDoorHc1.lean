import Derived.Test.YtopifdmaaibcnaaGreatDoorHd
import Derived.Test.YtopifdmaaibcnaaGreatDoorHc0
namespace Go.Proofs.YtopifdmaaibcnaaGreatDoor.H
open Go.RowKit Go.Proofs.YtopifdmaaibcnaaGreatDoorW.PrintWords Go.Proofs.YtopifdmaaibcnaaGreatDoorW.PrintLast Go.Proofs.YtopifdmaaibcnaaGreatDoorW.PrintMore
attribute [local go_sem] max2_int min2_int max_two min_two max_three min_three max_four min_four
set_option linter.unusedVariables false
set_option linter.unusedSimpArgs false

/-! ### impl_of: function 117 -/
/-- a square's cells -/
def ofE (q : S127) : List Value := [.int .i64 q.f0, .int .i64 q.f1, .int .i64 q.f2, .int .u64 q.f3]
theorem of_flat : ∀ (l : List S127) (j : Nat) (p : S127), l[j]? = some p → ((l.flatMap ofE).drop (j * 4)).take 4 = ofE p
  | [], j, p, h => by simp at h
  | q :: l, 0, p, h => by
    have : q = p := by simpa using h
    subst this
    simp [ofE]
  | q :: l, j + 1, p, h => by
    have e : (j + 1) * 4 = j * 4 + 1 + 1 + 1 + 1 := by omega
    rw [e, List.flatMap_cons]
    simp only [ofE, List.cons_append, List.nil_append, List.drop_succ_cons]
    exact of_flat l j p (by simpa using h)
theorem of_len : ∀ (l : List S127), (l.flatMap ofE).length = l.length * 4
  | [] => rfl
  | q :: l => by rw [List.flatMap_cons, List.length_append, of_len l]; simp [ofE]; omega
theorem of_row {W : World} {base : Nat} {v : Value} {l : List S127} (h : W.ownsRow base 127 4 v l.length (l.flatMap ofE)) : Kd.R k127 127 W base (fun _ => True) v l :=
  ⟨fun _ _ => trivial, l.flatMap ofE, h, of_len l, fun j p hj => by
    show k127.M W base _ p (((l.flatMap ofE).drop (j * 4)).take 4)
    rw [of_flat l j p hj]
    exact k127_mkM W base _ p⟩
theorem of_cells {w : World} {ad : Addr} {l : List S127} (h : Kd.C k127 w (some ad) l.length l) : ∀ (j : Nat) (u : Value), (l.flatMap ofE)[j]? = some u → w.cell? (ad.add j) = some u := by
  intro j u hj
  have hjl : j < l.length * 4 := by rw [← of_len]; exact (List.getElem?_eq_some_iff.1 hj).1
  obtain ⟨ad', e, hc⟩ := h.2.2 (by omega)
  obtain rfl := Option.some.inj e
  obtain ⟨p, hp⟩ : ∃ p, l[j / 4]? = some p := ⟨_, List.getElem?_eq_getElem (by omega)⟩
  obtain ⟨c, _, hK, hcc⟩ := hc _ p hp
  obtain rfl := k127_open hK
  have e2 := of_flat l (j / 4) p hp
  have e3 : (((l.flatMap ofE).drop (j / 4 * 4)).take 4)[j % 4]? = some u := by
    rw [List.getElem?_take, if_pos (by omega), List.getElem?_drop, show j / 4 * 4 + j % 4 = j by omega]
    exact hj
  rw [e2] at e3
  have := hcc (j % 4) u e3
  rwa [show j / 4 * k127.sz + j % 4 = j from by show j / 4 * 4 + j % 4 = j; omega] at this
set_option maxHeartbeats 2000000 in
theorem of_clone (A : Option Addr) (c : Nat) (l : List S127) (w : World) (hr : Kd.C k127 w A l.length l) (hl : l.length < 4398046511104) :
    Calls Tryz.prog 134 #[.slice A l.length c] w fun e w' => ∃ v, e = .returned v ∧ Kd.R k127 127 w' w.heap.size (fun _ => True) v l ∧ Below w.heap.size w w' := by
  have q22 : ∀ (w : World) (a : Option Addr) (n c n' c' : Nat), (binOp .eql 99 (.slice a n c) (.slice none n' c')).run Tryz.prog w = .ok (.bool a.isNone) w := fun w a n c n' c' => Lib.run_eql_slice_nil w _ _ a n c n' c' Tryz.underlying99
  cases A with
  | none =>
    have e : l = [] := by
      by_cases q : 0 < l.length
      · obtain ⟨_, e, _⟩ := hr.2.2 q; cases e
      · exact List.eq_nil_of_length_eq_zero (by omega)
    subst e
    clear hr hl
    go_enter Tryz.func134, Tryz.ntmps134
    go_wp2
    go_ret
    exact ⟨_, rfl, Kd.R_nil _ _ _ _ _, Below.refl _ _⟩
  | some ad =>
    have HC := Aside0.mk (of_cells hr)
    have HL := Aside0.mk (of_len l)
    have HM := Aside0.mk (Kd.C_max hr)
    have hone : ∀ u ∈ l.flatMap ofE, u.oneCell' = true := fun u hu => by
      obtain ⟨q, _, hq⟩ := List.mem_flatMap.1 hu
      simp only [ofE, List.mem_cons, List.not_mem_nil, or_false] at hq
      rcases hq with rfl | rfl | rfl | rfl <;> rfl
    have HN := Aside0.mk hone
    have HLT := Aside0.mk hl
    clear hr hone hl
    obtain ⟨i0, hi, hz⟩ := Option.map_eq_some_iff.1 info127
    simp only [Prod.mk.injEq] at hz
    obtain ⟨z1, z2, z3⟩ := hz
    have HI := Aside0.mk hi
    have HZ1 := Aside0.mk z1
    have HZ2 := Aside0.mk z2
    have HZ3 := Aside0.mk z3
    clear hi z1 z2 z3
    generalize hnn : l.length = n
    rw [hnn] at HL HM HLT
    have HE := Aside0.mk hnn
    clear hnn
    go_enter Tryz.func134, Tryz.ntmps134
    go_wp2_with (at_builtin; refine wpList_append_own _ rfl _ _ 99 rfl w.heap.size 127 i0 _ 4 32 Tryz.underlying99 HI.out HZ1.out HZ2.out HZ3.out rfl (by decide) _ _ _ rfl (World.ownsRow_made w #[] 0 (Nat.le_refl _) (Nat.zero_le _) (by simp)) ad n c (l.flatMap ofE) rfl ?qc1 ?qc2 ?qc3 ?qc4 ?qc5 ?qc6 ?_)
    case qc1 => exact HL.out
    case qc2 =>
      intro j u hj
      exact Lib.cell?_alloc_some _ (HC.out j u hj)
    case qc3 => exact HN.out
    case qc4 => rw [Nat.zero_add]; have := HLT.out; simp only [maxLen]; omega
    case qc5 => rw [Nat.zero_add]; have := HLT.out; omega
    case qc6 => simp
    intro v' w1 hown hgrow hnil
    go_wp2
    go_ret
    refine ⟨v', rfl, of_row ?_, ?_⟩
    · rw [HE.out]
      simpa using hown
    · exact ((Below.refl _ w).alloc (Nat.le_refl _) _).grown hgrow (by simp) (by intro k hk; simp [Value.ownBlock] at hk; omega)

/-- one square asked -/
theorem of_one (s : Int) (B : Nat) (q : S127) (W : World) (h1 : W.cell? ⟨B, 0, none⟩ = some (.int .u64 s)) :
    Calls Tryz.prog 135 #[.agg #[.int .i64 q.f0, .int .i64 q.f1, .int .i64 q.f2, .int .u64 q.f3], .pointer (some ⟨B, 0, none⟩)] W fun e W' => e = .returned (.bool (!ofP s q)) ∧ Below W.heap.size W W' := by
  have hB : B < W.heap.size := by
    rcases Nat.lt_or_ge B W.heap.size with h | h
    · exact h
    · simp [World.cell?, Array.getElem?_eq_none h] at h1
  have hne : B ≠ W.heap.size := by omega
  have HN := Aside0.mk (show (Go.bits .andNot .u64 q.f3 s != 0) = !ofP s q from rfl)
  go_enter Tryz.func135, Tryz.ntmps135
  go_wp2
  all_goals (go_ret; exact ⟨by rw [← HN.out]; rfl, (Below.refl _ W).alloc (Nat.le_refl _) _⟩)
/-- an index that tells the first square that is not wanted -/
structure OfTells (l : List S127) (s : Int) (i : Int) : Prop where mk :: (out : (i = -1 ∧ ∀ j : Nat, j < l.length → ofP s (rd_T127 l j) = true) ∨ ∃ k : Nat, i = k ∧ k < l.length ∧ ofP s (rd_T127 l k) = false ∧ ∀ j : Nat, j < k → ofP s (rd_T127 l j) = true)
set_option maxHeartbeats 2000000 in
theorem of_idx (s : Int) (B : Nat) (A : Option Addr) (c : Nat) (l : List S127) (w : World) (hr : Kd.C k127 w A l.length l) (hc : w.cell? ⟨B, 0, none⟩ = some (.int .u64 s)) :
    Calls Tryz.prog 155 #[.slice A l.length c, .func (.func 135) #[] #[.pointer (some ⟨B, 0, none⟩)]] w fun e w' => (∃ i : Int, e = .returned (.int .i64 i) ∧ OfTells l s i) ∧ Below w.heap.size w w' := by
  have hbig : l.length ≤ 9223372036854775807 := Kd.C_max hr
  have HR := Aside0.mk hr
  have HC := Aside0.mk hc
  clear hr hc
  go_enter Tryz.func155, Tryz.ntmps155
  go_wp2
  go_loopg [5, 8] l.length (fun gg _ s8 wr => ∃ kk : Nat, kk ≤ l.length ∧ l.length - kk ≤ gg ∧ s8 = .int .i64 kk ∧ Aside0 (Below w.heap.size w wr) ∧ Aside0 (∀ j : Nat, j < kk → ofP s (rd_T127 l j) = true))
  case atStart => exact ⟨0, Nat.zero_le _, by omega, rfl, ⟨Below.refl _ _⟩, ⟨fun j hj => absurd hj (Nat.not_lt_zero _)⟩⟩
  case round =>
    obtain ⟨kk, hkk, hg, rfl, HB, A0⟩ := hrel
    by_cases hlt : kk < l.length
    · have hltz : (kk : Int) < (l.length : Int) := by omega
      obtain ⟨ad, rfl, c0, c1, c2, c3⟩ := at_T127 (Kd.C_below HR.out HB.out) kk (by omega) hltz
      rw [Int.toNat_natCast] at c0 c1 c2 c3
      generalize hy : rd_T127 l kk = y at c0 c1 c2 c3
      have HY := Aside0.mk hy
      have HLT := Aside0.mk hlt
      clear hy
      obtain ⟨b, hb⟩ : ∃ b, ofP s y = b := ⟨_, rfl⟩
      have C : ∀ W, Below wr.heap.size wr W → Calls Tryz.prog 135 #[.agg #[.int .i64 y.f0, .int .i64 y.f1, .int .i64 y.f2, .int .u64 y.f3], .pointer (some ⟨B, 0, none⟩)] W fun e W' => e = .returned (.bool (!b)) ∧ Below W.heap.size W W' := fun W hW => by
        have := of_one s B y W (pw_cell_below (below_step HB.out hW) HC.out)
        rw [hb] at this
        exact this
      have HQ := Aside0.mk hb
      clear hb
      cases b with
      | false =>
        go_wp2_with (go_at_call 135; refine (C _ (Below.refl _ _)).mono ?_; rintro e w' ⟨rfl, hb⟩)
        go_ret
        exact ⟨⟨_, rfl, ⟨.inr ⟨kk, rfl, HLT.out, by rw [HY.out]; exact HQ.out, A0.out⟩⟩⟩, below_step HB.out hb⟩
      | true =>
        go_wp2_with (go_at_call 135; refine (C _ (Below.refl _ _)).mono ?_; rintro e w' ⟨rfl, hb⟩)
        go_roundg (l.length - (kk + 1))
        case measure => have := HLT.out; omega
        case rel =>
          refine ⟨kk + 1, by have := HLT.out; omega, by omega, by go_num, ⟨below_step HB.out hb⟩, ⟨fun j hj => ?_⟩⟩
          by_cases e : j = kk
          · subst e
            rw [HY.out]; exact HQ.out
          · exact A0.out j (by omega)
    · have hltz : ¬ (kk : Int) < (l.length : Int) := by omega
      have : kk = l.length := by omega
      subst this
      go_wp2
      go_ret
      exact ⟨⟨_, rfl, ⟨.inl ⟨rfl, A0.out⟩⟩⟩, HB.out⟩
theorem of_none {l : List S127} {s : Int} (h : ∀ j : Nat, j < l.length → ofP s (rd_T127 l j) = true) : l.filter (ofP s) = l := by
  rw [List.filter_eq_self]
  intro x hx
  obtain ⟨j, hj, rfl⟩ := List.getElem_of_mem hx
  have := h j hj
  rwa [show rd_T127 l (j : Int) = l[j] by simp [rd_T127, hj]] at this
theorem of_ex (l : List S127) (s : Int) : ∃ i, OfTells l s i := by
  have h : ∀ d : Nat, d ≤ l.length → (∀ j : Nat, j < d → ofP s (rd_T127 l j) = true) ∨ ∃ k : Nat, k < d ∧ ofP s (rd_T127 l k) = false ∧ ∀ j : Nat, j < k → ofP s (rd_T127 l j) = true := by
    intro d
    induction d with
    | zero => exact fun _ => .inl fun j hj => absurd hj (Nat.not_lt_zero _)
    | succ d ih =>
      intro hd
      rcases ih (by omega) with a | ⟨k, k1, k2, k3⟩
      · by_cases q : ofP s (rd_T127 l d) = true
        · refine .inl fun j hj => ?_
          by_cases e : j = d
          · subst e; exact q
          · exact a j (by omega)
        · exact .inr ⟨d, by omega, by simpa using q, a⟩
      · exact .inr ⟨k, by omega, k2, k3⟩
  rcases h l.length (Nat.le_refl _) with a | ⟨k, k1, k2, k3⟩
  · exact ⟨-1, ⟨.inl ⟨rfl, a⟩⟩⟩
  · exact ⟨k, ⟨.inr ⟨k, rfl, k1, k2, k3⟩⟩⟩
theorem of_uni {l : List S127} {s i i' : Int} (h : OfTells l s i) (h' : OfTells l s i') : i = i' := by
  rcases h.out with ⟨rfl, a⟩ | ⟨k, rfl, k1, k2, k3⟩ <;> rcases h'.out with ⟨rfl, a'⟩ | ⟨k', rfl, k1', k2', k3'⟩
  · rfl
  · rw [a k' k1'] at k2'; cases k2'
  · rw [a' k k1] at k2; cases k2
  · rcases Nat.lt_trichotomy k k' with q | rfl | q
    · rw [k3' k q] at k2; cases k2
    · rfl
    · rw [k3 k' q] at k2'; cases k2'
theorem of_put {xs : List S127} {i : Nat} {y : S127} (h : i < xs.length) : (xs.set i y).take (i + 1) = xs.take i ++ (if true = true then [y] else []) := by
  rw [List.take_add_one, List.take_set_of_le (Nat.le_refl _), List.getElem?_set_self h]
  simp
theorem of_new (w : World) (o : Obj) : (w.alloc o).heap[w.heap.size]? = some o := by
  show (w.heap.push o)[w.heap.size]? = some o
  simp
theorem of_far {w w' : World} {g B : Nat} {v : Value} (h : w.grownBy w' (some g)) (hB : B ≠ g) (hc : w.cell? ⟨B, 0, none⟩ = some v) : w'.cell? ⟨B, 0, none⟩ = some v := by
  have hlt : B < w.heap.size := by
    rcases Nat.lt_or_ge B w.heap.size with h | h
    · exact h
    · simp [World.cell?, Array.getElem?_eq_none h] at hc
  rw [World.cell?_of_block (h.block B hlt (by simpa using hB))]
  exact hc
theorem of_rd {l : List S127} {j : Nat} {y : S127} (h : l[j]? = some y) : rd_T127 l (j : Int) = y := by
  simp [rd_T127, h]
theorem of_next {l : List S127} {s : Int} {j : Nat} {y : S127} (h : l[j]? = some y) : (l.take (j + 1)).filter (ofP s) = (l.take j).filter (ofP s) ++ (if ofP s y then [y] else []) := by
  rw [List.take_add_one, h, List.filter_append]
  congr 1
  by_cases q : ofP s y = true
  · simp [q]
  · simp [q]
theorem of_start {l : List S127} {s : Int} {k : Nat} (hk : k < l.length) (hnot : ofP s (rd_T127 l k) = false) (hall : ∀ j : Nat, j < k → ofP s (rd_T127 l j) = true) : l.take k = (l.take (k + 1)).filter (ofP s) := by
  have h : l[k]? = some l[k] := List.getElem?_eq_getElem hk
  rw [of_next h, ← of_rd h, hnot]
  rw [of_none (l := l.take k)]
  · simp
  · intro j hj
    have hjk : j < k := by rw [List.length_take] at hj; omega
    have h2 : l[j]? = some l[j] := List.getElem?_eq_getElem (by omega)
    have h3 : (l.take k)[j]? = some l[j] := by rw [List.getElem?_take, if_pos hjk, h2]
    rw [of_rd h3, ← of_rd h2]
    exact hall j hjk
/-- the zero values of m squares -/
def ofZ (m : Nat) : List Value := (Builtin.zeroCells (Value.agg #[.int .i64 0, .int .i64 0, .int .i64 0, .int .u64 0]).cells m).toList
theorem ofZ_len (m : Nat) : (ofZ m).length = m * 4 := by simp [ofZ, Builtin.zeroCells, Value.cells]
theorem ofZ_one (m : Nat) : ∀ u ∈ ofZ m, u.oneCell' = true := by
  intro u hu
  obtain ⟨j, hj, rfl⟩ := List.getElem_of_mem hu
  have h4 : j % 4 < 4 := Nat.mod_lt _ (by omega)
  have : (ofZ m)[j] = (#[Value.int .i64 0, .int .i64 0, .int .i64 0, .int .u64 0] : Array Value)[j % 4]! := by
    simp [ofZ, Builtin.zeroCells, Value.cells]
  rw [this]
  generalize j % 4 = q at h4 ⊢
  match q, h4 with
  | 0, _ => rfl
  | 1, _ => rfl
  | 2, _ => rfl
  | 3, _ => rfl
theorem of_cut {W : World} {base : Nat} {ok : Nat → Prop} {g n c : Nat} {xs : List S127} (h : Kd.R k127 127 W base ok (.slice (some ⟨g, 0, none⟩) n c) xs) (i : Nat) (hi : i < n) :
    (∀ ty, (Builtin.clear_ #[99] ty #[.slice (some ⟨g, i * 4, none⟩) (n - i) (c - i)]).run Tryz.prog W = .ok (.tuple #[]) (W.setCells g (i * 4) (ofZ (n - i)))) ∧ Kd.R k127 127 (W.setCells g (i * 4) (ofZ (n - i))) base ok (.slice (some ⟨g, 0, none⟩) i c) (xs.take i) ∧ W.grownBy (W.setCells g (i * 4) (ofZ (n - i))) (some g) := by
  have hxs : n = xs.length := (Kd.R_reads' h).1
  have hnc2 : n ≤ c := (Kd.R_reads' h).2.1
  have hlen : (xs.take i).length = i := by rw [List.length_take]; omega
  obtain ⟨h0, inner, ⟨ho1, ho2⟩, hr⟩ := Kd.R_take (m := i) h (by omega)
  rcases ho2 with ⟨hv, _⟩ | ⟨g', cap', cur, hv, hb, hh, hnc, hcm, hcs, ht⟩
  · cases hv
  injection hv with ha _ hc'
  injection ha with ha
  injection ha with hg
  subst hg; subst hc'
  have hcs4 : cur.size = c * 4 := hcs
  have ht4 : cur.toList.take ((xs.take i).length * 4) = inner := ht
  have hL := ofZ_len (n - i)
  obtain ⟨cur', h3, h4, h5⟩ := setCells_row (ofZ (n - i)) (i * 4) W cur hh (by omega)
  obtain ⟨s1, s2, s3, s4⟩ := setCells_same g (ofZ (n - i)) (i * 4) W
  refine ⟨fun ty => ?_, ⟨h0, inner, ⟨ho1, .inr ⟨g, c, cur', by rw [hlen], hb, h3, hnc, hcm, by rw [h4, hcs], ?_⟩⟩, hr.imp_ (fun p q hp => k127.M_move (fun k hk => setCells_far _ _ k (fun e => hk.2 (by rw [e]; rfl))) hp)⟩, ⟨s1, s2, s3, by rw [s4]; exact Nat.le_refl _, fun k _ hk => setCells_far _ _ k (fun e => hk (by rw [e]))⟩⟩
  · have hst := run_storeCells_cells (P := Tryz.prog) g (i * 4) (ofZ (n - i)) 0 W (fun j hj => by
      rw [cell_of_row W g _ cur _ (0, 0) hh, Array.getElem?_eq_getElem (by omega)]; rfl) (fun j hj => blk_frozen hh _) (ofZ_one _)
    rw [Nat.add_zero] at hst
    obtain ⟨m, hm⟩ : ∃ m, n - i = m + 1 := ⟨n - i - 1, by omega⟩
    rw [hm] at hst ⊢
    have hz := Tryz.zeroValue127
    have hst' : (storeCells ⟨g, i * 4, none⟩ (Builtin.zeroCells (Value.agg #[.int .i64 0, .int .i64 0, .int .i64 0, .int .u64 0]).cells (m + 1)).toList).run Tryz.prog W = .ok () (W.setCells g (i * 4) (ofZ (m + 1))) := hst
    clear hst
    simp [Builtin.clear_, run_underlying Tryz.underlying99, hz, hst']
  · show cur'.toList.take ((xs.take i).length * 4) = inner
    rw [← ht4, hlen, h5, List.append_assoc, List.take_append_of_le_length (by rw [List.length_take, Array.length_toList]; omega), List.take_take, Nat.min_self]
set_option maxHeartbeats 4000000 in
theorem of_del (s : Int) (B : Nat) (v : Value) (l : List S127) (w0 w : World) (hr : Kd.R k127 127 w w0.heap.size (fun _ => True) v l) (hB : Below w0.heap.size w0 w) (hc : w.cell? ⟨B, 0, none⟩ = some (.int .u64 s)) (hne : ∀ k, v.ownBlock = some k → B ≠ k) :
    Calls Tryz.prog 133 #[v, .func (.func 135) #[] #[.pointer (some ⟨B, 0, none⟩)]] w fun e w' => ∃ v', e = .returned v' ∧ Kd.R k127 127 w' w0.heap.size (fun _ => True) v' (l.filter (ofP s)) ∧ Below w0.heap.size w0 w' := by
  obtain ⟨A, c, rfl, hcl, hC⟩ := Kd.R_reads hr
  obtain ⟨i, HI⟩ := of_ex l s
  have hI := (of_idx s B A c l w hC hc).mono (R' := fun e w' => e = .returned (.int .i64 i) ∧ Below w.heap.size w w') (by
    rintro e w1 ⟨⟨i', rfl, HI'⟩, hb⟩
    exact ⟨by rw [of_uni HI' HI], hb⟩)
  have HR := Aside0.mk hr
  have HB := Aside0.mk hB
  have HC := Aside0.mk hc
  have hbig : l.length ≤ 9223372036854775807 := Kd.C_max hC
  clear hr hB hc hC
  rcases HI.out with ⟨rfl, hall⟩ | ⟨k, rfl, hk, hnot, hall⟩
  · have HA := Aside0.mk hall
    clear hall HI
    go_enter Tryz.func133, Tryz.ntmps133
    go_wp2_with (go_at_call 155; refine hI.mono ?_; rintro e w1 ⟨rfl, hb⟩)
    go_ret
    exact ⟨_, rfl, by rw [of_none HA.out]; exact Kd.R_below HR.out hb, below_step HB.out hb⟩
  · have hne1 : ((k : Int) == -1) = false := beq_eq_false_iff_ne.2 (by omega)
    have HA := Aside0.mk hall
    have HNOT := Aside0.mk hnot
    obtain ⟨g, cap, e, gb, gl, gc⟩ := Kd.R_form HR.out (by omega)
    have hBg : B ≠ g := hne g (by rw [e]; rfl)
    cases e
    clear hall HI hnot gb gl gc hne
    obtain ⟨n, hn⟩ : ∃ n, n = l.length := ⟨_, rfl⟩
    rw [← hn] at hI HR hbig hk hcl
    have HN := Aside0.mk hn
    rw [← hn]
    clear hn
    have HK := Aside0.mk hk
    clear hk
    go_enter Tryz.func133, Tryz.ntmps133
    go_wp2_with (go_at_call 155; refine hI.mono ?_; rintro e w1 ⟨rfl, hb⟩)
    have HB1 := Aside0.mk (below_step HB.out hb)
    have HR1 := Aside0.mk (Kd.R_below HR.out hb)
    have HC1 := Aside0.mk (pw_cell_below hb HC.out)
    clear hb HR HB HC hI
    go_loopg [5, 6] n (fun gg s5 s6 wr => ∃ (ii jj : Nat) (xs : List S127), s5 = .int .i64 ii ∧ s6 = .int .i64 jj ∧ ii < jj ∧ jj ≤ n ∧ n - jj ≤ gg ∧ Aside0 (xs.length = n) ∧ Aside0 (Kd.R k127 127 wr w0.heap.size (fun _ => True) (.slice (some ⟨g, 0, none⟩) n c) xs) ∧ Aside0 (Below w0.heap.size w0 wr) ∧ Aside0 (wr.cell? ⟨B, 0, none⟩ = some (.int .u64 s)) ∧ Aside0 (xs.take ii = (l.take jj).filter (ofP s)) ∧ Aside0 (∀ m : Nat, jj ≤ m → xs[m]? = l[m]?))
    case atStart => exact ⟨k, k + 1, l, rfl, by have := HK.out; (congr 1 <;> (unfold wrap64; omega)), by omega, by have := HK.out; omega, by omega, ⟨HN.out.symm⟩, HR1, HB1, HC1, ⟨of_start (by have := HK.out; have := HN.out; omega) HNOT.out HA.out⟩, ⟨fun _ _ => rfl⟩⟩
    case round =>
      clear HR1 HB1 HC1 HA HNOT
      obtain ⟨ii, jj, xs, rfl, rfl, hij, hjn, hg, XL, XR, XB, XC, XT, XD⟩ := hrel
      by_cases hlt : jj < n
      · have hltz : (jj : Int) < (n : Int) := by omega
        obtain ⟨y, hy⟩ : ∃ y, l[jj]? = some y := ⟨_, List.getElem?_eq_getElem (by have := HN.out; omega)⟩
        have hxy : xs.getD (jj : Int).toNat z127 = y := by rw [Int.toNat_natCast, List.getD_eq_getElem?_getD, XD.out jj (Nat.le_refl _), hy]; rfl
        obtain ⟨c', hcl', hM, hcc, hfr⟩ := Kd.R_elem XR.out z127 (jj : Int) (by omega) hltz
        rw [hxy] at hM
        obtain rfl := k127_openM hM
        have k0 : wr.cell? ⟨g, (jj : Int).toNat * 4 + 0, none⟩ = some _ := hcc 0 _ rfl
        have k1 : wr.cell? ⟨g, (jj : Int).toNat * 4 + 1, none⟩ = some _ := hcc 1 _ rfl
        have k2 : wr.cell? ⟨g, (jj : Int).toNat * 4 + 2, none⟩ = some _ := hcc 2 _ rfl
        have k3 : wr.cell? ⟨g, (jj : Int).toNat * 4 + 3, none⟩ = some _ := hcc 3 _ rfl
        rw [Int.toNat_natCast] at k0 k1 k2 k3
        rw [Nat.add_zero] at k0
        have HY := Aside0.mk hy
        clear hy hxy hM hcc hfr hcl'
        obtain ⟨b, hb⟩ : ∃ b, ofP s y = b := ⟨_, rfl⟩
        have hcall := of_one s B y (wr.alloc (.cells #[.int .i64 y.f0, .int .i64 y.f1, .int .i64 y.f2, .int .u64 y.f3] 127)) (pw_cell_below (below_alloc (Below.refl _ _) _) XC.out)
        rw [hb] at hcall
        have HQ := Aside0.mk hb
        clear hb
        cases b with
        | false =>
          go_wp2_with fail
          refine hcall.mono ?_
          rintro e w2 ⟨rfl, hb2⟩
          have XR2 := Aside0.mk (Kd.R_below (Kd.R_alloc XR.out _) hb2)
          have XB2 := Aside0.mk (below_step (below_alloc XB.out _) hb2)
          have XC2 := Aside0.mk (pw_cell_below hb2 (pw_cell_below (below_alloc (Below.refl _ _) _) XC.out))
          clear hb2 hcall
          go_wp2
          go_roundg (n - (jj + 1))
          case measure => omega
          case rel => exact ⟨ii, jj + 1, xs, rfl, by (congr 1 <;> (unfold wrap64; omega)), by omega, by omega, by omega, XL, XR2, XB2, XC2, ⟨by rw [of_next HY.out, HQ.out]; simpa using XT.out⟩, ⟨fun m hm => XD.out m (by omega)⟩⟩
        | true =>
          go_wp2_with fail
          refine hcall.mono ?_
          rintro e w2 ⟨rfl, hb2⟩
          have XR2 := Aside0.mk (Kd.R_below (Kd.R_alloc XR.out _) hb2)
          have XB2 := Aside0.mk (below_step (below_alloc XB.out _) hb2)
          have XC2 := Aside0.mk (pw_cell_below hb2 (pw_cell_below (below_alloc (Below.refl _ _) _) XC.out))
          have hbx : w2.heap[wr.heap.size]? = some (.cells #[.int .i64 y.f0, .int .i64 y.f1, .int .i64 y.f2, .int .u64 y.f3] 127 (0, 0)) := (hb2.block _ (by simp)).trans (of_new _ _)
          have b0 : w2.cell? ⟨wr.heap.size, 0, none⟩ = some (.int .i64 y.f0) := (blk_cell hbx 0).trans rfl
          have b1 : w2.cell? ⟨wr.heap.size, 1, none⟩ = some (.int .i64 y.f1) := (blk_cell hbx 1).trans rfl
          have b2 : w2.cell? ⟨wr.heap.size, 2, none⟩ = some (.int .i64 y.f2) := (blk_cell hbx 2).trans rfl
          have b3 : w2.cell? ⟨wr.heap.size, 3, none⟩ = some (.int .u64 y.f3) := (blk_cell hbx 3).trans rfl
          obtain ⟨cc, hcl2, hM2, hcc2, hfr2⟩ := Kd.R_elem XR2.out z127 (ii : Int) (by omega) (by omega)
          have HCL := Aside0.mk hcl2
          have HCC := Aside0.mk hcc2
          have HMM := Aside0.mk (show k127.M w2 w0.heap.size (fun _ => False) y (cc.take 0 ++ ofE y ++ cc.drop (0 + (ofE y).length)) by
            rw [List.take_zero, List.nil_append, List.drop_of_length_le (by rw [hcl2]; exact Nat.le_refl 4), List.append_nil]; exact k127_mkM _ _ _ y)
          have HON := Aside0.mk (show ∀ u ∈ ofE y, u.oneCell' = true from fun u hu => by
            simp only [ofE, List.mem_cons, List.not_mem_nil, or_false] at hu
            rcases hu with rfl | rfl | rfl | rfl <;> rfl)
          have hltz2 : (ii : Int) < (n : Int) := by omega
          clear hb2 hcall hbx k0 k1 k2 k3 hcl2 hM2 hcc2 hfr2
          generalize wr.heap.size = gx at b0 b1 b2 b3 ⊢
          go_wp2_with ((with_reducible refine gate_store (t := 127) (p := 33) rfl ?_); refine Kd.R_store k127 (w0 := w0) w0.heap.size rfl rfl 127 _ _ rfl 127 (n := n) (cap := c) (ii : Int) 0 xs y _ (ofE y) cc (fun _ => True) (fun _ => False) rfl (show ii * 4 = (ii : Int).toNat * 4 + 0 by rw [Int.toNat_natCast]; rfl) rfl rfl (by kernel_rfl) HON.out XR2.out (Int.natCast_nonneg _) hltz2 HCL.out HCC.out (by show 0 + 4 ≤ 4; omega) HMM.out (fun _ h => h.elim) XB2.out ?_; intro w3 hrow hb3 hg3; rw [Int.toNat_natCast] at hrow; have XR3 := Aside0.mk hrow; have XB3 := Aside0.mk hb3; have XC3 := Aside0.mk (of_far hg3 hBg XC2.out); clear hrow hb3 hg3)
          go_roundg (n - (jj + 1))
          case measure => omega
          case rel => exact ⟨ii + 1, jj + 1, xs.set ii y, by (congr 1 <;> (unfold wrap64; omega)), by (congr 1 <;> (unfold wrap64; omega)), by omega, by omega, by omega, ⟨by rw [List.length_set]; exact XL.out⟩, XR3, XB3, XC3, ⟨by rw [of_next HY.out, HQ.out, ← XT.out]; exact of_put (by have := XL.out; omega)⟩, ⟨fun m hm => by rw [List.getElem?_set_ne (by omega)]; exact XD.out m (by omega)⟩⟩
      · have hjn2 : jj = n := by omega
        subst hjn2
        have hltz : ¬ (jj : Int) < (jj : Int) := by omega
        obtain ⟨hcl, hRc, hgc⟩ := of_cut XR.out ii hij
        have XR4 := Aside0.mk hRc
        have XB4 := Aside0.mk (below_step XB.out (Below.refl _ _))
        have XG4 := Aside0.mk hgc
        clear hRc hgc
        have hic : (ii : Int) ≤ (jj : Int) := by omega
        have HX := Aside0.mk (show l.filter (ofP s) = xs.take ii by rw [XT.out, List.take_of_length_le (by have := HN.out; omega)])
        have HG := Aside0.mk (Kd.R_base XR.out g rfl)
        go_wp2
        go_ret
        exact ⟨_, rfl, by rw [HX.out]; exact XR4.out, XB.out.grown XG4.out XB.out.size (by intro k hk; have := HG.out; simp at hk; omega)⟩
set_option maxHeartbeats 2000000 in
theorem impl_of.calls (A0 : Option Addr) (c0 : Nat) (l0 : List (S127)) (a1 : Int) (r : List (S127)) (w : World) (hr0 : Kd.C k127 w A0 l0.length l0) (hc0 : l0.length ≤ c0) (h : impl_of.f l0 a1 = some r) :
    Calls Tryz.prog 117 #[.slice A0 l0.length c0, .int .u64 a1] w fun e w' => ∃ v0_ : Value, e = .returned (v0_) ∧ Kd.R k127 127 w' w.heap.size (fun _ => True) v0_ r ∧ Below w.heap.size w w' := by
  unfold impl_of.f at h
  by_cases hl : l0.length < 4398046511104
  · rw [if_pos hl] at h
    obtain rfl := Option.some.inj h
    have HC := of_clone A0 c0 l0 (w.alloc (.cells #[.int .u64 a1] 56)) (Kd.C_alloc hr0 _) hl
    have HW := Aside0.mk (show (w.alloc (.cells #[.int .u64 a1] 56)).cell? ⟨w.heap.size, 0, none⟩ = some (.int .u64 a1) from (blk_cell (of_new w _) 0).trans rfl)
    clear hr0 h hl
    have hmf : ∀ (fn : Fn) (first cap : Array Value) (w : World), (Instr.makeFunc fn first cap).run Tryz.prog w = .ok (.func fn first cap) w := fun _ _ _ _ => rfl
    go_enter Tryz.func117, Tryz.ntmps117
    go_wp2_with fail
    refine HC.mono ?_
    rintro e w1 ⟨v, rfl, hR, hb⟩
    have D := of_del a1 w.heap.size v l0 w w1 (Kd.R_lower hR (by simp)) (below_step (below_alloc (Below.refl _ _) _) hb) (pw_cell_below hb HW.out) (fun k hk => by have := Kd.R_base hR k hk; simp at this; omega)
    clear hR hb HC HW
    go_wp2_with fail
    refine D.mono ?_
    rintro e w2 ⟨v2, rfl, hR, hb⟩
    have H1 := Aside0.mk hR
    have H2 := Aside0.mk hb
    clear hR hb D
    go_wp2
    go_ret
    exact ⟨_, rfl, H1.out, H2.out⟩
  · rw [if_neg hl] at h
    cases h

/-! ### impl_needless: function 93 -/
set_option maxHeartbeats 8000000 in
set_option maxRecDepth 100000 in
theorem impl_needless.calls (k : Nat) (A0 : Option Addr) (c0 : Nat) (l0 : List (S127)) (a1 : Int) (r : Int) (w : World) (hr0 : Kd.C k127 w A0 l0.length l0) (hc0 : l0.length ≤ c0) (h : impl_needless.f k l0 a1 = some r) :
    Calls Tryz.prog 93 #[.slice A0 l0.length c0, .int .u64 a1] w fun e w' => e = .returned (.int .u64 r) ∧ Below w.heap.size w w' := by
  have hu127 := Tryz.underlying127
  have HR0 := Aside0.mk hr0
  have HC0 := Aside0.mk hc0
  clear hr0 hc0
  have HB := Aside0.mk (Below.refl w.heap.size w)
  have H : ((impl_of.f l0 a1).bind fun t141 => (impl_needless.l0 k a1 t141 (t141.length : Int) 0)) = some r := h
  clear h
  replace H := Option.bind_eq_some_iff.mp H
  obtain ⟨t141, A30, H⟩ := H
  replace H : (impl_needless.l0 k a1 t141 (t141.length : Int) 0) = some r := H
  have A3 := Aside0.mk A30
  clear A30
  have H' := Aside0.mk H
  clear H
  go_enter Tryz.func93, Tryz.ntmps93
  go_wp2_with (first | ((with_reducible refine gate_callee (f := 117) rfl ?_); refine goesL_ (some 11) rfl rfl Tryz.func117 (by kernel_rfl) rfl #[.slice A0 l0.length c0, .int .u64 a1] rfl (by (try simp only [List.map_toArray, List.map_cons, List.map_nil]); first | done | rfl | (simp only [List.length_drop, List.length_take]; rfl)) ?_; (with_reducible refine (impl_of.calls _ _ l0 a1 t141 _ ?side1 ?side2 A3.out).mono ?_); (case side1 => repeat (first | exact HR0.out | (with_reducible refine Kd.C_alloc ?_ _) | (with_reducible refine Kd.C_drewN ?_ _) | (with_reducible refine Kd.C_drew ?_))); (case side2 => exact HC0.out); rintro e w4 ⟨v142, rfl, ho0, hb⟩; refine ⟨_, rfl, ?_⟩; have n0_ := Aside0.mk (Kd.R_lower ho0 (below_size (by repeat (first | (with_reducible first | exact HB.out | apply below_alloc | apply pw_below_drewN | apply below_drew1) | exact HB.out)))); have n1_ := Aside0.mk (below_step (by repeat (first | (with_reducible first | exact HB.out | apply below_alloc | apply pw_below_drewN | apply below_drew1) | exact HB.out)) hb); clear HB; have HO143 := n0_; have HB := n1_; clear n0_ n1_; (try clear hb); (try clear hb2); (try clear hk); (try clear hi); (try clear ho0); obtain ⟨Ao5, co5, eo5⟩ := Kd.R_slice HO143.out; subst eo5))
  go_loopg [5, 13] k (fun kq v5 v13 w' => ∃ (x5_1 : Int) (x13_1 : Int), v5 = .int .u64 x5_1 ∧ v13 = .int .i64 x13_1 ∧ Aside0 (impl_needless.l0 kq x5_1 t141 (t141.length : Int) x13_1 = some r) ∧ Aside0 (kq ≤ k) ∧ Aside0 (Kd.R k127 127 w' w.heap.size (fun _ => True) (.slice Ao5 t141.length co5) t141) ∧ Aside0 (Below w.heap.size w w'))
  case atStart => exact ⟨(a1), (0), (by first | rfl | (simp; done) | (simp [*]; done)), (by first | rfl | (simp; done) | (simp [*]; done)), H', ⟨Nat.le_refl _⟩, ⟨by (with_reducible repeat (first | apply Kd.R_alloc | apply Kd.R_drewN | apply Kd.R_drew)); exact HO143.out⟩, ⟨by repeat (first | (with_reducible first | exact HB.out | apply below_alloc | apply pw_below_drewN | apply below_drew1) | exact HB.out)⟩⟩
  case round =>
    clear H'
    try clear c1
    try clear p2
    obtain ⟨x5_1, x13_1, rfl, rfl, HA, HK1, HO_11, HB⟩ := hrel
    cases gk with
    | zero => exact absurd HA.out (by simp [impl_needless.l0])
    | succ k1 =>
      have H := HA.out
      clear HA
      simp only [impl_needless.l0] at H
      by_cases c6 : x13_1 < (t141.length : Int)
      · rw [if_pos c6] at H
        have c6b0 : decide (x13_1 < (t141.length : Int)) = true := decide_eq_true c6
        clear c6
        by_cases c7 : 0 ≤ x13_1
        · rw [if_pos c7] at H
          have c7b0 : decide (0 ≤ x13_1) = true := decide_eq_true c7
          clear c7
          by_cases c8 : x13_1 < (t141.length : Int)
          · rw [if_pos c8] at H
            have c8b0 : decide (x13_1 < (t141.length : Int)) = true := decide_eq_true c8
            clear c8
            have H' := Aside0.mk H
            clear H
            have p144 : 0 ≤ (x13_1 : Int) := of_decide_eq_true (by first | (with_reducible assumption) | assumption)
            have q144 : x13_1 < (t141.length : Int) := of_decide_eq_true (by first | (with_reducible assumption) | assumption)
            obtain ⟨ad144, e144, hx144_0, hx144_1, hx144_2, hx144_3⟩ := at_T127 (Kd.R_reads' HO_11.out).2.2 x13_1 p144 q144
            cases e144
            replace p144 := eq_true p144
            replace q144 := eq_true q144
            go_wp2_with (first | ((with_reducible refine gate_dst (N := 7) rfl ?_); refine box_event ?hg (N := 7) ?hd (cs := #[.int .i64 0, .int .i64 0, .int .i64 0, .int .u64 0]) (t := 127) ?hr ?_; (case hd => rfl); (case hg => rfl); (case hr => first | (go_simp; done) | (go_simp; rfl)); intro gb145 hg w9 hbox hb; have n0_ := Aside0.mk (Kd.R_below (Kd.R_elderB (by (with_reducible repeat (first | apply Kd.R_alloc | apply Kd.R_drewN | apply Kd.R_drew)); exact HO_11.out) gb145 (Nat.le_of_eq hg.symm)) hb); have n1_ := Aside0.mk (below_step (by repeat (first | (with_reducible first | exact HB.out | apply below_alloc | apply pw_below_drewN | apply below_drew1) | exact HB.out)) hb); have n2_ := Aside0.mk (hbox); have n3_ := Aside0.mk ((by rw [hg]; exact (below_size (by repeat (first | (with_reducible first | exact HB.out | apply below_alloc | apply pw_below_drewN | apply below_drew1) | exact HB.out))) : w.heap.size ≤ gb145)); have n4_ := Aside0.mk ((by rw [hg]; exact (below_size (by repeat (first | (with_reducible first | exact HB.out | apply below_alloc | apply pw_below_drewN | apply below_drew1) | exact HB.out))) : w.heap.size ≤ gb145)); clear HO_11; clear HB; have HO_11 := n0_; have HB := n1_; have BK145 := n2_; have GW145 := n3_; have GE145 := n4_; clear n0_ n1_ n2_ n3_ n4_; clear hb hbox hg; have hcz10_0 : w9.cell? ⟨gb145, 0, none⟩ = some (.int .i64 0) := (blk_cell BK145.out 0).trans rfl; have hcz10_1 : w9.cell? ⟨gb145, 1, none⟩ = some (.int .i64 0) := (blk_cell BK145.out 1).trans rfl; have hcz10_2 : w9.cell? ⟨gb145, 2, none⟩ = some (.int .i64 0) := (blk_cell BK145.out 2).trans rfl; have hcz10_3 : w9.cell? ⟨gb145, 3, none⟩ = some (.int .u64 0) := (blk_cell BK145.out 3).trans rfl; have hfz10_0 := blk_frozen BK145.out 0; have hfz10_1 := blk_frozen BK145.out 1; have hfz10_2 := blk_frozen BK145.out 2; have hfz10_3 := blk_frozen BK145.out 3))
            go_roundg k1
            case measure => have := HK1.out; omega
            case rel => exact ⟨(Go.bits .andNot .u64 x5_1 ((rd_T127 t141 x13_1).f3)), (wrap64 (x13_1 + 1)), (by first | rfl | (simp; done) | (simp [*]; done)), (by first | rfl | (simp; done) | (simp [*]; done)), H', ⟨by have := HK1.out; omega⟩, ⟨by (with_reducible repeat (first | apply Kd.R_alloc | apply Kd.R_drewN | apply Kd.R_drew)); exact Kd.R_mono (Kd.R_far (p := ⟨gb145, 3, none⟩) (Kd.R_far (p := ⟨gb145, 2, none⟩) (Kd.R_far (p := ⟨gb145, 1, none⟩) (Kd.R_far (p := ⟨gb145, 0, none⟩) (Kd.R_mono HO_11.out (fun k_ hk => (⟨hk, hk.2⟩ : _ ∧ k_ ≠ gb145))) (fun _ hk => hk.2) (.int .i64 ((rd_T127 t141 x13_1).f0))) (fun _ hk => hk.2) (.int .i64 ((rd_T127 t141 x13_1).f1))) (fun _ hk => hk.2) (.int .i64 ((rd_T127 t141 x13_1).f2))) (fun _ hk => hk.2) (.int .u64 ((rd_T127 t141 x13_1).f3))) (fun _ hk => trivial)⟩, ⟨by repeat (first | (with_reducible first | exact HB.out | apply below_alloc | apply pw_below_drewN | apply below_drew1 | refine below_set ?_ GE145.out) | exact HB.out)⟩⟩
          · rw [if_neg c8] at H
            exact absurd H (by simp)
        · rw [if_neg c7] at H
          exact absurd H (by simp)
      · rw [if_neg c6] at H
        have c6b0 : decide (x13_1 < (t141.length : Int)) = false := decide_eq_false c6
        clear c6
        obtain rfl := Option.some.inj H
        go_wp2
        go_ret
        exact ⟨by first | rfl | (simp [errW_none, errW_some] <;> rfl) | (simp [*, errW_none, errW_some] <;> rfl), by repeat (first | (with_reducible first | exact HB.out | apply below_alloc | apply pw_below_drewN | apply below_drew1) | exact HB.out)⟩

/-! ### impl_Puzzle_way: function 62 -/
set_option maxHeartbeats 8000000 in
set_option maxRecDepth 100000 in
theorem impl_Puzzle_way.calls (a0_0 : Int) (a0_1 : Int) (P0_2_ : Nat → Prop) (A0_2 : Option Addr) (c0_2 : Nat) (l0_2 : List Int) (P0_3_ : Nat → Prop) (A0_3 : Option Addr) (c0_3 : Nat) (l0_3 : List Int) (a0_4 : Int) (a0_5 : Bool) (a0_6 : Int) (r1 : Int) (r2 : Int) (r3 : List Int) (r4 : List Int) (r5 : Int) (r6 : Bool) (w : World) (hs0_2 : Kd.V (Kd.int .i64) 3 w w.heap.size (fun k_ => P0_2_ k_) (.slice A0_2 l0_2.length c0_2) l0_2) (hs0_3 : Kd.V (Kd.int .i64) 3 w w.heap.size (fun k_ => P0_3_ k_) (.slice A0_3 l0_3.length c0_3) l0_3) (h : impl_Puzzle_way.f a0_0 a0_1 l0_2 l0_3 a0_4 a0_5 a0_6 = some (r1, r2, r3, r4, r5, r6)) :
    Calls Tryz.prog 62 #[.agg #[.int .i64 a0_0, .int .i64 a0_1, .slice A0_2 l0_2.length c0_2, .slice A0_3 l0_3.length c0_3, .int .i64 a0_4, .bool a0_5, .int .i64 a0_6]] w fun e w' => ∃ v2_ v3_ : Value, e = .returned (.agg #[.int .i64 r1, .int .i64 r2, v2_, v3_, .int .i64 r5, .bool r6]) ∧ Kd.V (Kd.int .i64) 3 w' w.heap.size (fun k_ => ((P0_2_ k_ ∨ P0_3_ k_) ∨ w.heap.size ≤ k_)) v2_ r3 ∧ Kd.V (Kd.int .i64) 3 w' w.heap.size (fun k_ => ((P0_2_ k_ ∨ P0_3_ k_) ∨ w.heap.size ≤ k_)) v3_ r4 ∧ Below w.heap.size w w' := by
  have hu32 := Tryz.underlying32
  have hu80 := Tryz.underlying80
  have hu30 := Tryz.underlying30
  have HO0_2 := Aside0.mk (show Kd.V (Kd.int .i64) 3 w w.heap.size (fun k_ => ((P0_2_ k_ ∨ P0_3_ k_) ∨ w.heap.size ≤ k_)) (.slice A0_2 l0_2.length c0_2) l0_2 from Kd.V_mono hs0_2 (fun k_ hk => .inl (.inl hk)))
  have HO0_3 := Aside0.mk (show Kd.V (Kd.int .i64) 3 w w.heap.size (fun k_ => ((P0_2_ k_ ∨ P0_3_ k_) ∨ w.heap.size ≤ k_)) (.slice A0_3 l0_3.length c0_3) l0_3 from Kd.V_mono hs0_3 (fun k_ hk => .inl (.inr hk)))
  have HB := Aside0.mk (Below.refl w.heap.size w)
  have H : (some (a0_0, a0_1, l0_2, l0_3, a0_4, a0_5)) = some (r1, r2, r3, r4, r5, r6) := h
  clear h
  simp only [Option.some.injEq, Prod.mk.injEq] at H
  obtain ⟨rfl, rfl, rfl, rfl, rfl, rfl⟩ := H
  go_enter Tryz.func62, Tryz.ntmps62
  go_wp2_with (first | ((with_reducible refine gate_dst (N := 1) rfl ?_); refine box_event ?hg (N := 1) ?hd (cs := #[.int .i64 a0_0, .int .i64 a0_1, .slice A0_2 l0_2.length c0_2, .slice A0_3 l0_3.length c0_3, .int .i64 a0_4, .bool a0_5, .int .i64 a0_6]) (t := 32) ?hr ?_; (case hd => rfl); (case hg => rfl); (case hr => first | (go_simp; done) | (go_simp; rfl)); intro gb146 hg w2 hbox hb; have n0_ := Aside0.mk (Kd.V_below (Kd.V_elderB (by (with_reducible repeat (first | apply Kd.V_alloc | apply Kd.V_drewN | apply Kd.V_drew)); exact HO0_2.out) gb146 (Nat.le_of_eq hg.symm)) hb); have n1_ := Aside0.mk (Kd.V_below (Kd.V_elderB (by (with_reducible repeat (first | apply Kd.V_alloc | apply Kd.V_drewN | apply Kd.V_drew)); exact HO0_3.out) gb146 (Nat.le_of_eq hg.symm)) hb); have n2_ := Aside0.mk (below_step (by repeat (first | (with_reducible first | exact HB.out | apply below_alloc | apply pw_below_drewN | apply below_drew1) | exact HB.out)) hb); have n3_ := Aside0.mk (hbox); have n4_ := Aside0.mk ((by rw [hg]; exact (below_size (by repeat (first | (with_reducible first | exact HB.out | apply below_alloc | apply pw_below_drewN | apply below_drew1) | exact HB.out))) : w.heap.size ≤ gb146)); have n5_ := Aside0.mk ((by rw [hg]; exact (below_size (by repeat (first | (with_reducible first | exact HB.out | apply below_alloc | apply pw_below_drewN | apply below_drew1) | exact HB.out))) : w.heap.size ≤ gb146)); clear HO0_2; clear HO0_3; clear HB; have HO0_2 := n0_; have HO0_3 := n1_; have HB := n2_; have BK146 := n3_; have GW146 := n4_; have GE146 := n5_; clear n0_ n1_ n2_ n3_ n4_ n5_; clear hb hbox hg) | ((with_reducible refine gate_dst (N := 2) rfl ?_); refine box_event ?hg (N := 2) ?hd (cs := #[.int .i64 0, .int .i64 0, .slice none 0 0, .slice none 0 0, .int .i64 0, .bool false]) (t := 80) ?hr ?_; (case hd => rfl); (case hg => rfl); (case hr => first | (go_simp; done) | (go_simp; rfl)); intro gb147 hg w3 hbox hb; have n0_ := Aside0.mk (Kd.V_below (Kd.V_elderB (by (with_reducible repeat (first | apply Kd.V_alloc | apply Kd.V_drewN | apply Kd.V_drew)); exact HO0_2.out) gb147 (Nat.le_of_eq hg.symm)) hb); have n1_ := Aside0.mk (Kd.V_below (Kd.V_elderB (by (with_reducible repeat (first | apply Kd.V_alloc | apply Kd.V_drewN | apply Kd.V_drew)); exact HO0_3.out) gb147 (Nat.le_of_eq hg.symm)) hb); have n2_ := Aside0.mk (blk_below (g := gb146) (o := .cells #[.int .i64 a0_0, .int .i64 a0_1, .slice A0_2 l0_2.length c0_2, .slice A0_3 l0_3.length c0_3, .int .i64 a0_4, .bool a0_5, .int .i64 a0_6] 32 (0, 0)) (by (with_reducible repeat (first | refine blk_drewN ?_ _ | refine blk_drew ?_ | refine blk_alloc ?_ _)); exact BK146.out) hb); have n3_ := Aside0.mk (below_step (by repeat (first | (with_reducible first | exact HB.out | apply below_alloc | apply pw_below_drewN | apply below_drew1 | refine below_set ?_ GE146.out) | exact HB.out)) hb); have n4_ := Aside0.mk (hbox); have n5_ := Aside0.mk ((by rw [hg]; exact (below_size (by repeat (first | (with_reducible first | exact HB.out | apply below_alloc | apply pw_below_drewN | apply below_drew1 | refine below_set ?_ GE146.out) | exact HB.out))) : w.heap.size ≤ gb147)); have n6_ := Aside0.mk ((by rw [hg]; exact (below_size (by repeat (first | (with_reducible first | exact HB.out | apply below_alloc | apply pw_below_drewN | apply below_drew1 | refine below_set ?_ GE146.out) | exact HB.out))) : w.heap.size ≤ gb147)); have n7_ := Aside0.mk ((by rw [hg]; exact Nat.ne_of_lt (blk_lt (g := gb146) (o := .cells #[.int .i64 a0_0, .int .i64 a0_1, .slice A0_2 l0_2.length c0_2, .slice A0_3 l0_3.length c0_3, .int .i64 a0_4, .bool a0_5, .int .i64 a0_6] 32 (0, 0)) (by (with_reducible repeat (first | refine blk_drewN ?_ _ | refine blk_drew ?_ | refine blk_alloc ?_ _)); exact BK146.out)) : gb146 ≠ gb147)); have n8_ := Aside0.mk ((by rw [hg]; exact Nat.ne_of_gt (blk_lt (g := gb146) (o := .cells #[.int .i64 a0_0, .int .i64 a0_1, .slice A0_2 l0_2.length c0_2, .slice A0_3 l0_3.length c0_3, .int .i64 a0_4, .bool a0_5, .int .i64 a0_6] 32 (0, 0)) (by (with_reducible repeat (first | refine blk_drewN ?_ _ | refine blk_drew ?_ | refine blk_alloc ?_ _)); exact BK146.out)) : gb147 ≠ gb146)); clear HO0_2; clear HO0_3; clear BK146; clear HB; have HO0_2 := n0_; have HO0_3 := n1_; have BK146 := n2_; have HB := n3_; have BK147 := n4_; have GW147 := n5_; have GE147 := n6_; have NB146_147 := n7_; have NB147_146 := n8_; clear n0_ n1_ n2_ n3_ n4_ n5_ n6_ n7_ n8_; clear hb hbox hg; have hnb4 := NB146_147.out; have hnc4 := NB147_146.out; have hcz5_0 : w3.cell? ⟨gb146, 0, none⟩ = some (.int .i64 a0_0) := (blk_cell BK146.out 0).trans rfl; have hcz5_1 : w3.cell? ⟨gb146, 1, none⟩ = some (.int .i64 a0_1) := (blk_cell BK146.out 1).trans rfl; have hcz5_2 : w3.cell? ⟨gb146, 2, none⟩ = some (.slice A0_2 l0_2.length c0_2) := (blk_cell BK146.out 2).trans rfl; have hcz5_3 : w3.cell? ⟨gb146, 3, none⟩ = some (.slice A0_3 l0_3.length c0_3) := (blk_cell BK146.out 3).trans rfl; have hcz5_4 : w3.cell? ⟨gb146, 4, none⟩ = some (.int .i64 a0_4) := (blk_cell BK146.out 4).trans rfl; have hcz5_5 : w3.cell? ⟨gb146, 5, none⟩ = some (.bool a0_5) := (blk_cell BK146.out 5).trans rfl; have hcz5_6 : w3.cell? ⟨gb146, 6, none⟩ = some (.int .i64 a0_6) := (blk_cell BK146.out 6).trans rfl; have hfz5_0 := blk_frozen BK146.out 0; have hfz5_1 := blk_frozen BK146.out 1; have hfz5_2 := blk_frozen BK146.out 2; have hfz5_3 := blk_frozen BK146.out 3; have hfz5_4 := blk_frozen BK146.out 4; have hfz5_5 := blk_frozen BK146.out 5; have hfz5_6 := blk_frozen BK146.out 6; have hcz6_0 : w3.cell? ⟨gb147, 0, none⟩ = some (.int .i64 0) := (blk_cell BK147.out 0).trans rfl; have hcz6_1 : w3.cell? ⟨gb147, 1, none⟩ = some (.int .i64 0) := (blk_cell BK147.out 1).trans rfl; have hcz6_2 : w3.cell? ⟨gb147, 2, none⟩ = some (.slice none 0 0) := (blk_cell BK147.out 2).trans rfl; have hcz6_3 : w3.cell? ⟨gb147, 3, none⟩ = some (.slice none 0 0) := (blk_cell BK147.out 3).trans rfl; have hcz6_4 : w3.cell? ⟨gb147, 4, none⟩ = some (.int .i64 0) := (blk_cell BK147.out 4).trans rfl; have hcz6_5 : w3.cell? ⟨gb147, 5, none⟩ = some (.bool false) := (blk_cell BK147.out 5).trans rfl; have hfz6_0 := blk_frozen BK147.out 0; have hfz6_1 := blk_frozen BK147.out 1; have hfz6_2 := blk_frozen BK147.out 2; have hfz6_3 := blk_frozen BK147.out 3; have hfz6_4 := blk_frozen BK147.out 4; have hfz6_5 := blk_frozen BK147.out 5))
  refine bodyPost_ret (results_cell_row rfl _ _ gb147 80 #[.int .i64 a0_0, .int .i64 a0_1, .slice A0_2 l0_2.length c0_2, .slice A0_3 l0_3.length c0_3, .int .i64 a0_4, .bool a0_5] (0, 0) _ rfl (by (with_reducible repeat (first | refine blk_drewN ?_ _ | refine blk_drew ?_ | refine blk_alloc ?_ _)); refine blk_put (cs := #[.int .i64 a0_0, .int .i64 a0_1, .slice A0_2 l0_2.length c0_2, .slice A0_3 l0_3.length c0_3, .int .i64 a0_4, .bool false]) ?_ 5 _ rfl; (with_reducible repeat (first | refine blk_drewN ?_ _ | refine blk_drew ?_ | refine blk_alloc ?_ _)); refine blk_put (cs := #[.int .i64 a0_0, .int .i64 a0_1, .slice A0_2 l0_2.length c0_2, .slice A0_3 l0_3.length c0_3, .int .i64 0, .bool false]) ?_ 4 _ rfl; (with_reducible repeat (first | refine blk_drewN ?_ _ | refine blk_drew ?_ | refine blk_alloc ?_ _)); refine blk_put (cs := #[.int .i64 a0_0, .int .i64 a0_1, .slice A0_2 l0_2.length c0_2, .slice none 0 0, .int .i64 0, .bool false]) ?_ 3 _ rfl; (with_reducible repeat (first | refine blk_drewN ?_ _ | refine blk_drew ?_ | refine blk_alloc ?_ _)); refine blk_put (cs := #[.int .i64 a0_0, .int .i64 a0_1, .slice none 0 0, .slice none 0 0, .int .i64 0, .bool false]) ?_ 2 _ rfl; (with_reducible repeat (first | refine blk_drewN ?_ _ | refine blk_drew ?_ | refine blk_alloc ?_ _)); refine blk_put (cs := #[.int .i64 a0_0, .int .i64 0, .slice none 0 0, .slice none 0 0, .int .i64 0, .bool false]) ?_ 1 _ rfl; (with_reducible repeat (first | refine blk_drewN ?_ _ | refine blk_drew ?_ | refine blk_alloc ?_ _)); refine blk_put (cs := #[.int .i64 0, .int .i64 0, .slice none 0 0, .slice none 0 0, .int .i64 0, .bool false]) ?_ 0 _ rfl; (with_reducible repeat (first | refine blk_drewN ?_ _ | refine blk_drew ?_ | refine blk_alloc ?_ _)); exact BK147.out) Tryz.underlying80 rfl (by kernel_rfl)) rfl ?_
  exact ⟨_, _, by first | rfl | (simp [errW_none, errW_some] <;> rfl) | (simp [*, errW_none, errW_some] <;> rfl), by (with_reducible repeat (first | apply Kd.V_alloc | apply Kd.V_drewN | apply Kd.V_drew)); exact Kd.V_mono (Kd.V_far (p := ⟨gb147, 5, none⟩) (Kd.V_far (p := ⟨gb147, 4, none⟩) (Kd.V_far (p := ⟨gb147, 3, none⟩) (Kd.V_far (p := ⟨gb147, 2, none⟩) (Kd.V_far (p := ⟨gb147, 1, none⟩) (Kd.V_far (p := ⟨gb147, 0, none⟩) (Kd.V_mono HO0_2.out (fun k_ hk => (⟨hk, hk.2⟩ : _ ∧ k_ ≠ gb147))) (fun _ hk => hk.2) (.int .i64 a0_0)) (fun _ hk => hk.2) (.int .i64 a0_1)) (fun _ hk => hk.2) (.slice A0_2 l0_2.length c0_2)) (fun _ hk => hk.2) (.slice A0_3 l0_3.length c0_3)) (fun _ hk => hk.2) (.int .i64 a0_4)) (fun _ hk => hk.2) (.bool a0_5)) (fun _ hk => hk.1.1.1), by (with_reducible repeat (first | apply Kd.V_alloc | apply Kd.V_drewN | apply Kd.V_drew)); exact Kd.V_mono (Kd.V_far (p := ⟨gb147, 5, none⟩) (Kd.V_far (p := ⟨gb147, 4, none⟩) (Kd.V_far (p := ⟨gb147, 3, none⟩) (Kd.V_far (p := ⟨gb147, 2, none⟩) (Kd.V_far (p := ⟨gb147, 1, none⟩) (Kd.V_far (p := ⟨gb147, 0, none⟩) (Kd.V_mono HO0_3.out (fun k_ hk => (⟨hk, hk.2⟩ : _ ∧ k_ ≠ gb147))) (fun _ hk => hk.2) (.int .i64 a0_0)) (fun _ hk => hk.2) (.int .i64 a0_1)) (fun _ hk => hk.2) (.slice A0_2 l0_2.length c0_2)) (fun _ hk => hk.2) (.slice A0_3 l0_3.length c0_3)) (fun _ hk => hk.2) (.int .i64 a0_4)) (fun _ hk => hk.2) (.bool a0_5)) (fun _ hk => hk.1.1.1), by repeat (first | (with_reducible first | exact HB.out | apply below_alloc | apply pw_below_drewN | apply below_drew1 | refine below_set ?_ GE146.out | refine below_set ?_ GE147.out) | exact HB.out)⟩

/-! ### impl_way_with: function 63 -/
/-- what is protected stays -/
structure Keeps (PB : Nat → Prop) (w w' : World) : Prop where
  os : w'.os = w.os
  tape : w'.tape = w.tape
  output : w'.output = w.output
  size : w.heap.size ≤ w'.heap.size
  block : ∀ k, PB k → w'.heap[k]? = w.heap[k]?
section
variable {PB PB' : Nat → Prop} {w0 w w1 w' : World}
theorem Keeps.refl (PB : Nat → Prop) (w : World) : Keeps PB w w := ⟨rfl, rfl, rfl, Nat.le_refl _, fun _ _ => rfl⟩
theorem Keeps.drew (h : Keeps PB w w1) : Keeps PB w w1.drew := ⟨h.os, h.tape, h.output, h.size, h.block⟩
theorem Keeps.trans (h : Keeps PB w w1) (k : Keeps PB w1 w') : Keeps PB w w' :=
  ⟨k.os.trans h.os, k.tape.trans h.tape, k.output.trans h.output, Nat.le_trans h.size k.size, fun i hi => (k.block i hi).trans (h.block i hi)⟩
theorem Keeps.less (h : Keeps PB w w') (hp : ∀ k, PB' k → PB k) : Keeps PB' w w' := ⟨h.os, h.tape, h.output, h.size, fun k hk => h.block k (hp k hk)⟩
theorem Keeps.of_below (hp : ∀ k, PB k → k < w.heap.size) (h : Below w.heap.size w w') : Keeps PB w w' := ⟨h.os, h.tape, h.output, h.size, fun k hk => h.block k (hp k hk)⟩
theorem Keeps.below (h : Keeps PB w w') (hb : Below w0.heap.size w0 w) (hp : ∀ k, k < w0.heap.size → PB k) : Below w0.heap.size w0 w' :=
  hb.trans ⟨h.os, h.tape, h.output, h.size, fun k hk => h.block k (hp k hk)⟩
theorem Keeps.cell {a : Addr} {v : Value} (h : Keeps PB w w') (hg : PB a.block) (hc : w.cell? a = some v) : w'.cell? a = some v := (World.cell?_of_block (w := w) (h.block _ hg)).trans hc
theorem Keeps.blk {g : Nat} {o : Obj} (h : Keeps PB w w') (hg : PB g) (hb : w.heap[g]? = some o) : w'.heap[g]? = some o := (h.block g hg).trans hb
end
/-- the protected blocks, and those that were made since -/
def PBn (PB : Nat → Prop) (w w' : World) (k : Nat) : Prop := PB k ∨ (w.heap.size ≤ k ∧ k < w'.heap.size)
theorem PBn.lt {PB : Nat → Prop} {w w' : World} (hp : ∀ k, PB k → k < w.heap.size) (hb : Below w.heap.size w w') : ∀ k, PBn PB w w' k → k < w'.heap.size := by
  rintro k (h | h)
  · exact Nat.lt_of_lt_of_le (hp k h) hb.size
  · exact h.2
/-- a function value that is called again and again: what has been handed to it so far is told by I -/
structure Cb (P : Program) (g : FuncId) (cb : Array Value) (I : (Nat → Prop) → List Int → World → Prop) (N : Nat) : Prop where
  enters : ∀ args w, (callFunc g args).run P w = .ok (.enter g args) w
  more : ∀ {PB D w w'}, (∀ k, PB k → k < w.heap.size) → I PB D w → Below w.heap.size w w' → I (PBn PB w w') D w'
  less : ∀ {PB PB' D w}, I PB D w → (∀ k, PB' k → PB k) → I PB' D w
  drew : ∀ {PB D w}, I PB D w → I PB D w.drew
  call : ∀ {PB D w} (s : Int), (∀ k, PB k → k < w.heap.size) → I PB D w → D.length < N → 0 ≤ s → s < 18446744073709551616 →
    Calls P g (#[.int .u64 s] ++ cb) w fun e w' => e = .returned (.tuple #[]) ∧ I PB (D ++ [s]) w' ∧ Keeps PB w w'
section
variable {P : Program} {ops : Array Oper} {Q : Exit → Act → World → Prop}
theorem goesVC_ {rest : List Oper} {oi : Oper} {a : Act} {w : World} (N : Option Tmp) (hd : oi.dst = N) (hg : oi.guard = none) {f : FuncId} {o : Operand} {ar : Array Operand} {ts : Array TypeId} {cb : Array Value} (he : ∀ args w, (callFunc f args).run P w = .ok (.enter f args) w) (args : Array Value)
    (hop : oi.op = .call { callee := .value o, args := ar, argTypes := ts }) (hov : a.eval o = .func (.func f) #[] cb) (hargs : ar.map a.eval = args)
    (h : Calls P f (args ++ cb) w fun e w' => ∃ v, e = .returned v ∧ wpList P ops Q rest (a.put N v) w') : wpList P ops Q (oi :: rest) a w := by
  refine wpList_plain hg fun K hK => ?_
  have hrun : (execOp a.eval oi).run P w = .ok (.enter f (args ++ cb)) w := by
    unfold execOp
    simp [hop, resolve, Deferred.ofValue, invoke, hov, hargs, he]
  unfold Oper.wp
  rw [hrun, Oper.upon_enter, hd]
  refine h.mono fun e w'' hh => ?_
  obtain ⟨v, rfl, hk⟩ := hh
  exact hK _ _ hk
end
theorem chB_short (f : Int → Int → Int) : ∀ (l : List Int) (n : Nat) (own : Int), l.length < n → chB f n own l = []
  | l, 0, _, h => by omega
  | [], _ + 1, _, _ => rfl
  | b :: r, n + 1, own, h => by
    have h' : r.length < n := by simpa using h
    rw [chB, chB_short f r n _ h', chB_short f r (n + 1) own (by omega)]
    rfl
theorem chB_cut (f : Int → Int → Int) (n : Nat) (own : Int) {l : List Int} {i : Nat} (h : i < l.length) : chB f (n + 1) own (l.drop i) = chB f n (f own l[i]) (l.drop (i + 1)) ++ chB f (n + 1) own (l.drop (i + 1)) := by
  rw [List.drop_eq_getElem_cons h, chB]
structure ChC (g : FuncId) (cb : Array Value) (b0 eb lb xb : Nat) (v : Value) (l : List Int) (PB : Nat → Prop) (w : World) : Prop where
  he : w.heap[eb]? = some (.cells #[.func (.func g) #[] cb] 104 (0, 0))
  hl : w.heap[lb]? = some (.cells #[v] 22 (0, 0))
  hx : w.heap[xb]? = some (.cells #[.func (.func 132) #[] #[.pointer (some ⟨eb, 0, none⟩), .pointer (some ⟨lb, 0, none⟩), .pointer (some ⟨xb, 0, none⟩)]] 145 (0, 0))
  row : Kd.R (Kd.int .i64) 3 w b0 PB v l
  pe : PB eb
  pl : PB lb
  px : PB xb
theorem ChC.keeps {g : FuncId} {cb : Array Value} {b0 eb lb xb : Nat} {v : Value} {l : List Int} {PB : Nat → Prop} {w w' : World} (h : ChC g cb b0 eb lb xb v l PB w) (k : Keeps PB w w') : ChC g cb b0 eb lb xb v l PB w' :=
  ⟨k.blk h.pe h.he, k.blk h.pl h.hl, k.blk h.px h.hx, Kd.R_move h.row k.block, h.pe, h.pl, h.px⟩
theorem enters76 : ∀ args w, (callFunc 132 args).run Tryz.prog w = .ok (.enter 132 args) w := fun args w => enters_ Tryz.func132 (by kernel_rfl) rfl args w
set_option maxHeartbeats 4000000 in
set_option maxRecDepth 100000 in
theorem choose_none {g : FuncId} {cb : Array Value} {I : (Nat → Prop) → List Int → World → Prop} {N : Nat} (C : Cb Tryz.prog g cb I N) {b0 eb lb xb : Nat} {v : Value} {l : List Int} (own p : Int) (PB : Nat → Prop) (D : List Int) (w : World) (h0 : 0 ≤ own) (h1 : own < 18446744073709551616) (hPB : ∀ k, PB k → k < w.heap.size) (hI : I PB D w) (hC : ChC g cb b0 eb lb xb v l PB w) (hN : D.length + 1 ≤ N) :
    Calls Tryz.prog 132 #[.int .u64 own, .int .i64 p, .int .i64 0, .pointer (some ⟨eb, 0, none⟩), .pointer (some ⟨lb, 0, none⟩), .pointer (some ⟨xb, 0, none⟩)] w fun e w' => e = .returned (.tuple #[]) ∧ I PB (D ++ [own]) w' ∧ Keeps PB w w' := by
  have cE := (blk_cell hC.he 0).trans rfl
  have HC := Aside0.mk (C.call own hPB hI (by omega) h0 h1)
  have HE := Aside0.mk C.enters
  clear C hI hC hPB h0 h1 hN
  go_enter Tryz.func132, Tryz.ntmps132
  go_wp2_with ((with_reducible refine gate_dst (N := 14) rfl ?_); refine goesVC_ (some 14) rfl rfl (cb := cb) HE.out #[.int .u64 own] rfl rfl (by simp only [List.map_toArray, List.map_cons, List.map_nil]; rfl) ?_; refine HC.out.mono ?_; rintro e w1 ⟨rfl, hI1, hK1⟩; refine ⟨_, rfl, ?_⟩; have HI1 := Aside0.mk hI1; have HK1 := Aside0.mk hK1; clear hI1 hK1)
  first | go_end0 | ((try simp only [Exit.inBlock, Exit.then]); refine bodyPost_ret (results_none rfl _ _ _) rfl ?_)
  exact ⟨rfl, HI1.out, HK1.out⟩
theorem u64_range (x : Int) : 0 ≤ IntKind.u64.wrap x ∧ IntKind.u64.wrap x < 18446744073709551616 := by
  simp [IntKind.wrap, IntKind.bits, IntKind.signed]
  omega
theorem bits_range (o : BinOp) (x y : Int) : 0 ≤ Go.bits o .u64 x y ∧ Go.bits o .u64 x y < 18446744073709551616 := by
  unfold Go.bits
  exact u64_range _
theorem fI_range (own b : Int) : 0 ≤ fI own b ∧ fI own b < 18446744073709551616 := bits_range _ _ _
set_option maxHeartbeats 8000000 in
set_option maxRecDepth 100000 in
theorem choose_calls {g : FuncId} {cb : Array Value} {I : (Nat → Prop) → List Int → World → Prop} {N : Nat} (C : Cb Tryz.prog g cb I N) {b0 eb lb xb : Nat} {v : Value} {l : List Int} (hl0 : ∀ b ∈ l, 0 ≤ b) (hl1 : l.length ≤ 1000000) :
    ∀ (n i : Nat) (own p q : Int) (PB : Nat → Prop) (D : List Int) (w : World), q = n → p = i → n ≤ 1000000 → i ≤ l.length → 0 ≤ own → own < 18446744073709551616 → (∀ k, PB k → k < w.heap.size) → I PB D w → ChC g cb b0 eb lb xb v l PB w → D.length + (chB fI n own (l.drop i)).length ≤ N →
    Calls Tryz.prog 132 #[.int .u64 own, .int .i64 p, .int .i64 q, .pointer (some ⟨eb, 0, none⟩), .pointer (some ⟨lb, 0, none⟩), .pointer (some ⟨xb, 0, none⟩)] w fun e w' => e = .returned (.tuple #[]) ∧ I PB (D ++ chB fI n own (l.drop i)) w' ∧ Keeps PB w w' := by
  intro n
  induction n with
  | zero =>
    rintro i own p q PB D w rfl rfl hn hi h0 h1 hPB hI hC hN
    have h9 := choose_none C own (i : Int) PB D w h0 h1 hPB hI hC (by simpa [chB] using hN)
    rw [chB]
    exact h9
  | succ n ih =>
    rintro i own p q PB D w rfl rfl hn hi h0 h1 hPB hI hC hN
    have hne : ((((n + 1 : Nat) : Int)) == 0) = false := by simp; omega
    obtain ⟨A, c, rfl⟩ := Kd.R_slice hC.row
    have HIH := Aside0.mk ih
    have HDR := Aside0.mk @C.drew
    have HL0 := Aside0.mk hl0
    have HPB := Aside0.mk hPB
    have HI := Aside0.mk hI
    have HCC := Aside0.mk hC
    have HK0 := Aside0.mk (Keeps.refl PB w)
    have HN := Aside0.mk hN
    clear ih hl0 hPB hI hC hN C
    go_enter Tryz.func132, Tryz.ntmps132
    go_wp2
    go_loopg [9] (l.length - i) (fun gg v9 w' => ∃ (j : Nat) (D' : List Int), i ≤ j ∧ j ≤ l.length ∧ l.length - j ≤ gg ∧ v9 = .int .i64 j ∧ Aside0 (I PB D' w') ∧ Aside0 (Keeps PB w w') ∧ Aside0 (D' ++ chB fI (n + 1) own (l.drop j) = D ++ chB fI (n + 1) own (l.drop i)))
    case atStart => exact ⟨i, D, Nat.le_refl _, hi, Nat.le_refl _, rfl, HI, HK0, ⟨rfl⟩⟩
    case round =>
      clear HI HK0
      obtain ⟨j, D', hij, hj, hg, rfl, HI, HK, HD⟩ := hrel
      have HC1 := Aside0.mk (HCC.out.keeps HK.out)
      have HPW := Aside0.mk (fun k hk => Nat.lt_of_lt_of_le (HPB.out k hk) HK.out.size)
      have cL : wr.cell? ⟨lb, 0, none⟩ = some (.slice A l.length c) := (blk_cell HC1.out.hl 0).trans rfl
      have cX : wr.cell? ⟨xb, 0, none⟩ = some (.func (.func 132) #[] #[.pointer (some ⟨eb, 0, none⟩), .pointer (some ⟨lb, 0, none⟩), .pointer (some ⟨xb, 0, none⟩)]) := (blk_cell HC1.out.hx 0).trans rfl
      by_cases hlt : j + (n + 1) ≤ l.length
      · have hltz : (j : Int) + ((n : Int) + 1) ≤ (l.length : Int) := by omega
        have hlt' := Aside0.mk hlt
        have hjl : j < l.length := by omega
        have HJ := Aside0.mk hjl
        obtain ⟨ad, rfl, hcell⟩ := Kd.at_int (Kd.R_reads' HC1.out.row).2.2 (j : Int) (by omega) (by omega)
        rw [Int.toNat_natCast] at hcell
        have hrd : rd l (j : Int) = l[j] := by unfold rd; rw [Int.toNat_natCast, List.getD_eq_getElem?_getD, List.getElem?_eq_getElem hjl]; rfl
        have hb0 : 0 ≤ rd l (j : Int) := by rw [hrd]; exact HL0.out _ (List.getElem_mem hjl)
        have HRD := Aside0.mk hrd
        clear hrd
        go_wp2
        go_still_tail 12, (by kernel_rfl)
        change wpList _ _ _ _ _ wr.drew
        have hI2 : I PB D' wr.drew := HDR.out HI.out
        refine goesVC_ (some 36) rfl rfl (cb := #[.pointer (some ⟨eb, 0, none⟩), .pointer (some ⟨lb, 0, none⟩), .pointer (some ⟨xb, 0, none⟩)]) enters76 #[.int .u64 (fI own (rd l (j : Int))), .int .i64 (IntKind.i64.wrap (↑j + 1)), .int .i64 (IntKind.i64.wrap ↑n)] rfl rfl (by simp only [List.map_toArray, List.map_cons, List.map_nil]; rfl) ?_
        have hfr := fI_range own (rd l (j : Int))
        have hsp : (chB fI (n + 1) own (l.drop j)) = chB fI n (fI own (rd l (j : Int))) (l.drop (j + 1)) ++ chB fI (n + 1) own (l.drop (j + 1)) := by rw [HRD.out]; exact chB_cut fI n own hjl
        have hw1 : IntKind.i64.wrap (n : Int) = (n : Int) := IntWalk.i64_in _ (by omega)
        have hw2 : IntKind.i64.wrap ((j : Int) + 1) = ((j + 1 : Nat) : Int) := (IntWalk.i64_in _ (by omega)).trans (by omega)
        have hD := HD.out
        have hNN := HN.out
        have hlen := congrArg List.length hD
        rw [hsp] at hD hlen
        simp only [List.length_append] at hlen
        refine (HIH.out (j + 1) (fI own (rd l (j : Int))) _ _ PB D' wr.drew hw1 hw2 (by omega) (by omega) hfr.1 hfr.2 HPW.out hI2 (HC1.out.keeps (Keeps.refl PB wr).drew) (by omega)).mono ?_
        rintro e w1 ⟨rfl, hI1, hK1⟩
        refine ⟨_, rfl, ?_⟩
        have HI1 := Aside0.mk hI1
        have HK1 := Aside0.mk hK1
        have HD1 := Aside0.mk hD
        clear hI1 hK1 hI2 hD hlen hsp hfr hNN hw1 hw2
        go_wp2_with fail
        have HLT := hlt'.out
        go_roundg (l.length - (j + 1))
        case measure => omega
        case rel => exact ⟨j + 1, _, by omega, by omega, Nat.le_refl _, by go_num, HI1, ⟨HK.out.trans ⟨HK1.out.os, HK1.out.tape, HK1.out.output, HK1.out.size, HK1.out.block⟩⟩, ⟨by rw [List.append_assoc]; exact HD1.out⟩⟩
      · have hltz : ¬ (j : Int) + ((n : Int) + 1) ≤ (l.length : Int) := by omega
        have HE := Aside0.mk (chB_short fI (l.drop j) (n + 1) own (by rw [List.length_drop]; omega))
        clear hlt
        go_wp2
        first | go_end0 | ((try simp only [Exit.inBlock, Exit.then]); refine bodyPost_ret (results_none rfl _ _ _) rfl ?_)
        have hD := HD.out
        rw [HE.out, List.append_nil] at hD
        exact ⟨rfl, by rw [← hD]; exact HI.out, HK.out⟩
theorem sb_ready {g : FuncId} {cb : Array Value} {w w1 w2 w3 w4 : World} {E L X : Nat} {v : Value} {l : List Int} {PB : Nat → Prop} (hE : w.heap.size ≤ E) (h2 : Below w.heap.size w w2) (h1 : Below w.heap.size w w1) (bE : w2.heap[E]? = some (.cells #[.func (.func g) #[] cb] 104 (0, 0))) (ho : Kd.R (Kd.int .i64) 3 w2 w1.heap.size (fun _ => True) v l)
    (hL : w2.heap.size ≤ L) (h3 : Below w2.heap.size w2 w3) (bL : w3.heap[L]? = some (.cells #[.slice none 0 0] 22 (0, 0))) (hX : (w3.setCell ⟨L, 0, none⟩ v).heap.size ≤ X) (h4 : Below (w3.setCell ⟨L, 0, none⟩ v).heap.size (w3.setCell ⟨L, 0, none⟩ v) w4) (bX : w4.heap[X]? = some (.cells #[.nilFunc] 145 (0, 0))) :
    Below w.heap.size w (w4.setCell ⟨X, 0, none⟩ (.func (.func 132) #[] #[.pointer (some ⟨E, 0, none⟩), .pointer (some ⟨L, 0, none⟩), .pointer (some ⟨X, 0, none⟩)])) ∧
    ChC g cb w1.heap.size E L X v l (PBn PB w (w4.setCell ⟨X, 0, none⟩ (.func (.func 132) #[] #[.pointer (some ⟨E, 0, none⟩), .pointer (some ⟨L, 0, none⟩), .pointer (some ⟨X, 0, none⟩)]))) (w4.setCell ⟨X, 0, none⟩ (.func (.func 132) #[] #[.pointer (some ⟨E, 0, none⟩), .pointer (some ⟨L, 0, none⟩), .pointer (some ⟨X, 0, none⟩)])) := by
  generalize hF : Value.func (.func 132) #[] #[.pointer (some ⟨E, 0, none⟩), .pointer (some ⟨L, 0, none⟩), .pointer (some ⟨X, 0, none⟩)] = F
  have s0 : (w3.setCell ⟨L, 0, none⟩ v).heap.size = w3.heap.size := by simp [World.setCell]
  have s5 : (w4.setCell ⟨X, 0, none⟩ F).heap.size = w4.heap.size := by simp [World.setCell]
  have s1 := h1.size
  have s2 := h2.size
  have s3 := h3.size
  have s4 := h4.size
  have e2 := blk_lt bE
  have l3 := blk_lt bL
  have x4 := blk_lt bX
  rw [s0] at hX s4
  have bE5 : (w4.setCell ⟨X, 0, none⟩ F).heap[E]? = some (.cells #[.func (.func g) #[] cb] 104 (0, 0)) := blk_far (blk_below (blk_far (blk_below bE h3) (p := ⟨L, 0, none⟩) (by show E ≠ L; omega) v) h4) (p := ⟨X, 0, none⟩) (by show E ≠ X; omega) F
  have bL5 : (w4.setCell ⟨X, 0, none⟩ F).heap[L]? = some (.cells #[v] 22 (0, 0)) := blk_far (blk_below (blk_put (cs := #[.slice none 0 0]) bL 0 v rfl) h4) (p := ⟨X, 0, none⟩) (by show L ≠ X; omega) F
  have bX5 : (w4.setCell ⟨X, 0, none⟩ F).heap[X]? = some (.cells #[F] 145 (0, 0)) := blk_put (cs := #[.nilFunc]) bX 0 F rfl
  refine ⟨below_set (below_step (below_set (below_step h2 h3) (by omega)) h4) (by omega), bE5, bL5, by subst hF; exact bX5, ?_, .inr ⟨by omega, by omega⟩, .inr ⟨by omega, by omega⟩, .inr ⟨by omega, by omega⟩⟩
  refine Kd.R_mono (Kd.R_move (Kd.R_bound ho) (fun k hk => ?_)) (fun k hk => .inr ⟨by have := hk.2.1; omega, by have := hk.2.2.1; omega⟩)
  have hk2 := hk.2.2.1
  rw [Below.heap_setCell _ ⟨X, 0, none⟩ F k (by show k ≠ X; omega), h4.block k (by omega), Below.heap_setCell _ ⟨L, 0, none⟩ v k (by show k ≠ L; omega), h3.block k hk2]
set_option maxHeartbeats 8000000 in
set_option maxRecDepth 100000 in
theorem subsets_calls {g : FuncId} {cb : Array Value} {I : (Nat → Prop) → List Int → World → Prop} {N : Nat} (C : Cb Tryz.prog g cb I N) (k n : Nat) (s q : Int) (l : List Int) (PB : Nat → Prop) (D : List Int) (w : World) (hT : TzTab w) (hq : q = n) (hl : impl_set_listed.f k s = some l) (hn : n ≤ 1000000) (hl1 : l.length ≤ 1000000) (hl0 : ∀ b ∈ l, 0 ≤ b) (hPB : ∀ k, PB k → k < w.heap.size) (hI : I PB D w) (hN : D.length + (chB fI n 0 l).length ≤ N) :
    Calls Tryz.prog 113 #[.int .u64 s, .int .i64 q, .func (.func g) #[] cb] w fun e w' => e = .returned (.tuple #[]) ∧ I PB (D ++ chB fI n 0 l) w' ∧ Keeps PB w w' := by
  have HCH := Aside0.mk (fun (b0 eb lb xb : Nat) (v : Value) (PB : Nat → Prop) (D : List Int) (w : World) => choose_calls C (b0 := b0) (eb := eb) (lb := lb) (xb := xb) (v := v) hl0 hl1 n 0 0 0 q PB D w hq rfl hn (Nat.zero_le _) (by decide) (by decide))
  have HT := Aside0.mk hT
  have HL := Aside0.mk hl
  have HI := Aside0.mk hI
  have HMO := Aside0.mk (fun w' => C.more (w' := w') hPB hI)
  have HLE := Aside0.mk @C.less
  have HPB := Aside0.mk hPB
  have HN := Aside0.mk hN
  clear C hT hq hl hn hl1 hl0 hPB hI hN
  have hu1 := Tryz.underlying104
  have hu2 := Tryz.underlying22
  have hu3 := Tryz.underlying145
  go_enter Tryz.func113, Tryz.ntmps113
  go_wp2_with ((with_reducible refine gate_dst (N := 5) rfl ?_); refine zbx 5 #[.func (.func g) #[] cb] 104 ?_; intro E hE w1 hboxE hb1; have HBE := Aside0.mk hboxE; have HB1 := Aside0.mk hb1; have HE0 : Aside0 (w.heap.size ≤ E) := ⟨Nat.le_of_eq hE.symm⟩; clear hE hboxE hb1)
  refine (impl_set_listed.calls k s l _ (tz_below HT.out HB1.out) HL.out).mono ?_
  rintro e w2 ⟨v, rfl, ho, hb2⟩
  obtain ⟨A, c, rfl⟩ := Kd.R_slice ho
  have HO := Aside0.mk ho
  have HB2 := Aside0.mk (below_step HB1.out hb2)
  have HBE2 := Aside0.mk (blk_below HBE.out hb2)
  clear ho hb2
  go_wp2_with (first
    | ((with_reducible refine gate_dst (N := 6) rfl ?_); refine zbx 6 #[.slice none 0 0] 22 ?_; intro L hL w3 hboxL hb3; have HBL := Aside0.mk hboxL; have HB3 := Aside0.mk hb3; have HL0 : Aside0 (w2.heap.size ≤ L) := ⟨Nat.le_of_eq hL.symm⟩; have kL : w3.cell? ⟨L, 0, none⟩ = some (.slice none 0 0) := (blk_cell hboxL 0).trans rfl; have fL := blk_frozen hboxL 0; clear hL hboxL hb3)
    | ((with_reducible refine gate_dst (N := 7) rfl ?_); refine zbx 7 #[.nilFunc] 145 ?_; intro X hX w4 hboxX hb4; have HBX := Aside0.mk hboxX; have HB4 := Aside0.mk hb4; have HX0 := Aside0.mk (Nat.le_of_eq hX.symm); have kX : w4.cell? ⟨X, 0, none⟩ = some .nilFunc := (blk_cell hboxX 0).trans rfl; have fX := blk_frozen hboxX 0; clear hX hboxX hb4))
  obtain ⟨hbw, hch⟩ := sb_ready (PB := PB) HE0.out HB2.out HB1.out HBE2.out HO.out HL0.out HB3.out HBL.out HX0.out HB4.out HBX.out
  have hpl := PBn.lt HPB.out hbw
  refine (HCH.out _ _ _ _ _ (PBn PB w _) D _ hpl (HMO.out _ hbw) hch HN.out).mono ?_
  rintro e w5 ⟨rfl, hI5, hK5⟩
  have HI5 := Aside0.mk (HLE.out hI5 (fun k hk => Or.inl hk))
  have HK5 := Aside0.mk ((Keeps.of_below HPB.out hbw).trans (hK5.less (fun k hk => Or.inl hk)))
  clear hI5 hK5 hbw hch hpl
  go_wp2_with fail
  first | go_end0 | ((try simp only [Exit.inBlock, Exit.then]); refine bodyPost_ret (results_none rfl _ _ _) rfl ?_)
  exact ⟨rfl, HI5.out, HK5.out⟩
section
variable {g : FuncId} {cb : Array Value} {I : (Nat → Prop) → List Int → World → Prop} {N : Nat}
/-- the inner callback's state -/
def I2 (I : (Nat → Prop) → List Int → World → Prop) (g : FuncId) (cb : Array Value) (eb sb gb : Nat) (sv gone : Int) (D0 : List Int) (PB : Nat → Prop) (D : List Int) (w : World) : Prop :=
  I (fun k => PB k ∨ k = eb ∨ k = sb ∨ k = gb) (D0 ++ D.map (fM sv gone)) w ∧ w.heap[eb]? = some (.cells #[.func (.func g) #[] cb] 104 (0, 0)) ∧ w.heap[sb]? = some (.cells #[.int .u64 sv] 56 (0, 0)) ∧ w.heap[gb]? = some (.cells #[.int .u64 gone] 56 (0, 0))
theorem enters67 : ∀ args w, (callFunc 115 args).run Tryz.prog w = .ok (.enter 115 args) w := fun args w => enters_ Tryz.func115 (by kernel_rfl) rfl args w
set_option maxHeartbeats 4000000 in
set_option maxRecDepth 100000 in
theorem each11_call (C : Cb Tryz.prog g cb I N) {eb sb gb : Nat} {sv gone : Int} {D0 : List Int} {PB : Nat → Prop} {D : List Int} {w : World} (s : Int) (hPB : ∀ k, PB k → k < w.heap.size) (hI : I2 I g cb eb sb gb sv gone D0 PB D w) (hN : D0.length + D.length < N) :
    Calls Tryz.prog 115 (#[.int .u64 s] ++ #[.pointer (some ⟨eb, 0, none⟩), .pointer (some ⟨sb, 0, none⟩), .pointer (some ⟨gb, 0, none⟩)]) w fun e w' => e = .returned (.tuple #[]) ∧ I2 I g cb eb sb gb sv gone D0 PB (D ++ [s]) w' ∧ Keeps PB w w' := by
  obtain ⟨hi, hE, hS, hG⟩ := hI
  have hPB3 : ∀ k, (PB k ∨ k = eb ∨ k = sb ∨ k = gb) → k < w.heap.size := by
    rintro k (h | rfl | rfl | rfl)
    · exact hPB k h
    · exact blk_lt hE
    · exact blk_lt hS
    · exact blk_lt hG
  have hr := bits_range .or (Go.bits .andNot .u64 sv gone) s
  have HC := Aside0.mk (C.call (fM sv gone s) hPB3 hi (by simpa using hN) hr.1 hr.2)
  have HEN := Aside0.mk C.enters
  have cE : w.cell? ⟨eb, 0, none⟩ = some (.func (.func g) #[] cb) := (blk_cell hE 0).trans rfl
  have cS : w.cell? ⟨sb, 0, none⟩ = some (.int .u64 sv) := (blk_cell hS 0).trans rfl
  have cG : w.cell? ⟨gb, 0, none⟩ = some (.int .u64 gone) := (blk_cell hG 0).trans rfl
  have HE := Aside0.mk hE
  have HS := Aside0.mk hS
  have HG := Aside0.mk hG
  clear C hi hE hS hG hPB hPB3 hr hN
  go_enter Tryz.func115, Tryz.ntmps115
  go_wp2_with ((with_reducible refine gate_dst (N := 11) rfl ?_); refine goesVC_ (some 11) rfl rfl (cb := cb) HEN.out #[.int .u64 (fM sv gone s)] rfl rfl (by simp only [List.map_toArray, List.map_cons, List.map_nil]; rfl) ?_; refine HC.out.mono ?_; rintro e w1 ⟨rfl, hI1, hK1⟩; refine ⟨_, rfl, ?_⟩; have HI1 := Aside0.mk hI1; have HK1 := Aside0.mk hK1; clear hI1 hK1)
  first | go_end0 | ((try simp only [Exit.inBlock, Exit.then]); refine bodyPost_ret (results_none rfl _ _ _) rfl ?_)
  refine ⟨rfl, ⟨by rw [List.map_append, ← List.append_assoc]; exact HI1.out, HK1.out.blk (.inr (.inl rfl)) HE.out, HK1.out.blk (.inr (.inr (.inl rfl))) HS.out, HK1.out.blk (.inr (.inr (.inr rfl))) HG.out⟩, HK1.out.less (fun k hk => Or.inl hk)⟩
theorem each11_cb (C : Cb Tryz.prog g cb I N) (eb sb gb : Nat) (sv gone : Int) (D0 : List Int) : Cb Tryz.prog 115 #[.pointer (some ⟨eb, 0, none⟩), .pointer (some ⟨sb, 0, none⟩), .pointer (some ⟨gb, 0, none⟩)] (I2 I g cb eb sb gb sv gone D0) (N - D0.length) where
  enters := enters67
  more := by
    rintro PB D w w' hPB ⟨hi, hE, hS, hG⟩ hb
    refine ⟨C.less (C.more ?_ hi hb) ?_, blk_below hE hb, blk_below hS hb, blk_below hG hb⟩
    · rintro k (h | rfl | rfl | rfl)
      · exact hPB k h
      · exact blk_lt hE
      · exact blk_lt hS
      · exact blk_lt hG
    · rintro k ((h | h) | h)
      · exact .inl (.inl h)
      · exact .inr h
      · exact .inl (.inr h)
  less := by
    rintro PB PB' D w ⟨hi, hE, hS, hG⟩ hp
    exact ⟨C.less hi (fun k hk => hk.imp (hp k) id), hE, hS, hG⟩
  drew := by
    rintro PB D w ⟨hi, hE, hS, hG⟩
    exact ⟨C.drew hi, hE, hS, hG⟩
  call := fun s hPB hI hN _ _ => each11_call C s hPB hI (by omega)
end
section
variable {g : FuncId} {cb : Array Value} {I : (Nat → Prop) → List Int → World → Prop} {N : Nat}
/-- a way's cells -/
def wyC (a0 a1 : Int) (A2 : Option Addr) (c2 : Nat) (l2 : List Int) (A3 : Option Addr) (c3 : Nat) (l3 : List Int) (n : Nat) (mv : Bool) : Array Value := #[.int .i64 a0, .int .i64 a1, .slice A2 l2.length c2, .slice A3 l3.length c3, .int .i64 n, .bool mv]
/-- the outer callback's state -/
structure I1 (I : (Nat → Prop) → List Int → World → Prop) (g : FuncId) (cb : Array Value) (w0 : World) (wb eb sb : Nat) (fc : Array Value) (sv : Int) (inn : Int → List Int) (D0 : List Int) (PB : Nat → Prop) (D : List Int) (w : World) : Prop where
  hi : I (fun k => PB k ∨ k = wb ∨ k = eb ∨ k = sb ∨ k < w0.heap.size) (D0 ++ D.flatMap inn) w
  hW : w.heap[wb]? = some (.cells fc 80 (0, 0))
  hE : w.heap[eb]? = some (.cells #[.func (.func g) #[] cb] 104 (0, 0))
  hS : w.heap[sb]? = some (.cells #[.int .u64 sv] 56 (0, 0))
  hB : Below w0.heap.size w0 w
theorem I1.lt {w0 : World} {wb eb sb : Nat} {fc : Array Value} {sv : Int} {inn : Int → List Int} {D0 : List Int} {PB : Nat → Prop} {D : List Int} {w : World} (h : I1 I g cb w0 wb eb sb fc sv inn D0 PB D w) (hPB : ∀ k, PB k → k < w.heap.size) : ∀ k, (PB k ∨ k = wb ∨ k = eb ∨ k = sb ∨ k < w0.heap.size) → k < w.heap.size := by
  rintro k (q | rfl | rfl | rfl | q)
  · exact hPB k q
  · exact blk_lt h.hW
  · exact blk_lt h.hE
  · exact blk_lt h.hS
  · exact Nat.lt_of_lt_of_le q h.hB.size
theorem I1.keeps {w0 : World} {wb eb sb : Nat} {fc : Array Value} {sv : Int} {inn : Int → List Int} {D0 : List Int} {PB : Nat → Prop} {D D' : List Int} {w w' : World} (h : I1 I g cb w0 wb eb sb fc sv inn D0 PB D w) (hk : Keeps (fun k => PB k ∨ k = wb ∨ k = eb ∨ k = sb ∨ k < w0.heap.size) w w') (hi : I (fun k => PB k ∨ k = wb ∨ k = eb ∨ k = sb ∨ k < w0.heap.size) (D0 ++ D'.flatMap inn) w') : I1 I g cb w0 wb eb sb fc sv inn D0 PB D' w' :=
  ⟨hi, hk.blk (.inr (.inl rfl)) h.hW, hk.blk (.inr (.inr (.inl rfl))) h.hE, hk.blk (.inr (.inr (.inr (.inl rfl)))) h.hS, hk.below h.hB (fun k hk => .inr (.inr (.inr (.inr hk))))⟩
theorem enters65 : ∀ args w, (callFunc 114 args).run Tryz.prog w = .ok (.enter 114 args) w := fun args w => enters_ Tryz.func114 (by kernel_rfl) rfl args w
set_option maxHeartbeats 8000000 in
set_option maxRecDepth 100000 in
theorem each1_take (C : Cb Tryz.prog g cb I N) {w0 : World} {wb eb sb : Nat} {sv : Int} {l : List Int} {a0 a1 : Int} {A2 : Option Addr} {c2 : Nat} {l2 : List Int} {A3 : Option Addr} {c3 : Nat} {l3 : List Int} {n : Nat} {D0 : List Int} {PB : Nat → Prop} {D : List Int} {w : World} (s : Int) (hPB : ∀ k, PB k → k < w.heap.size)
    (hI : I1 I g cb w0 wb eb sb (wyC a0 a1 A2 c2 l2 A3 c3 l3 n false) sv (inM false n sv l) D0 PB D w) (hN : (D0 ++ D.flatMap (inM false n sv l)).length < N) :
    Calls Tryz.prog 114 (#[.int .u64 s] ++ #[.pointer (some ⟨wb, 0, none⟩), .pointer (some ⟨eb, 0, none⟩), .pointer (some ⟨sb, 0, none⟩)]) w fun e w' => e = .returned (.tuple #[]) ∧ I1 I g cb w0 wb eb sb (wyC a0 a1 A2 c2 l2 A3 c3 l3 n false) sv (inM false n sv l) D0 PB (D ++ [s]) w' ∧ Keeps PB w w' := by
  have hlt := hI.lt hPB
  have hr := bits_range .andNot sv s
  have HC := Aside0.mk (fun w1 (hb : Below w.heap.size w w1) => C.call (Go.bits .andNot .u64 sv s) (PBn.lt hlt hb) (C.more hlt hI.hi hb) hN hr.1 hr.2)
  have HEN := Aside0.mk C.enters
  have HLE := Aside0.mk @C.less
  have HI := Aside0.mk hI
  have HPB := Aside0.mk hPB
  have HLT := Aside0.mk hlt
  clear C hI hPB hlt hr hN
  have hu1 := Tryz.underlying80
  have hu2 := Tryz.underlying56
  go_enter Tryz.func114, Tryz.ntmps114
  go_wp2_with (first
    | ((with_reducible refine gate_dst (N := 4) rfl ?_); refine zbx 4 #[.int .u64 s] 56 ?_; intro G hG w1 hboxG hb1; have HBG := Aside0.mk hboxG; have HB1 := Aside0.mk hb1; have cG : w1.cell? ⟨G, 0, none⟩ = some (.int .u64 s) := (blk_cell hboxG 0).trans rfl; have cW : w1.cell? ⟨wb, 5, none⟩ = some (.bool false) := (blk_cell (blk_below HI.out.hW hb1) 5).trans rfl; have cE : w1.cell? ⟨eb, 0, none⟩ = some (.func (.func g) #[] cb) := (blk_cell (blk_below HI.out.hE hb1) 0).trans rfl; have cS : w1.cell? ⟨sb, 0, none⟩ = some (.int .u64 sv) := (blk_cell (blk_below HI.out.hS hb1) 0).trans rfl; clear hG hboxG hb1)
    | ((with_reducible refine gate_dst (N := 12) rfl ?_); refine goesVC_ (some 12) rfl rfl (cb := cb) HEN.out #[.int .u64 (Go.bits .andNot .u64 sv s)] rfl rfl (by simp only [List.map_toArray, List.map_cons, List.map_nil]; rfl) ?_; refine (HC.out w1 HB1.out).mono ?_; rintro e w2 ⟨rfl, hI1, hK1⟩; refine ⟨_, rfl, ?_⟩; have HI1 := Aside0.mk hI1; have HK1 := Aside0.mk hK1; clear hI1 hK1))
  first | go_end0 | ((try simp only [Exit.inBlock, Exit.then]); refine bodyPost_ret (results_none rfl _ _ _) rfl ?_)
  have hk := (Keeps.of_below HLT.out HB1.out).trans (HK1.out.less (fun k hk => Or.inl hk))
  refine ⟨rfl, HI.out.keeps hk ?_, hk.less (fun k hk => Or.inl hk)⟩
  have := HLE.out HI1.out (fun k hk => Or.inl hk)
  rw [List.append_assoc] at this
  rw [List.flatMap_append]
  simpa [inM] using this
end
section
variable {g : FuncId} {cb : Array Value} {I : (Nat → Prop) → List Int → World → Prop} {N : Nat}
theorem each1_inner (C : Cb Tryz.prog g cb I N) {w0 : World} {wb eb sb G : Nat} {fc : Array Value} {sv s : Int} {inn : Int → List Int} {D0 : List Int} {PB : Nat → Prop} {D : List Int} {w w2 : World} (hPB : ∀ k, PB k → k < w.heap.size)
    (hI : I1 I g cb w0 wb eb sb fc sv inn D0 PB D w) (hb : Below w.heap.size w w2) (hG0 : w.heap.size ≤ G) (hG : w2.heap[G]? = some (.cells #[.int .u64 s] 56 (0, 0))) :
    I2 I g cb eb sb G sv s (D0 ++ D.flatMap inn) (PBn (fun k => PB k ∨ k = wb ∨ k = eb ∨ k = sb ∨ k < w0.heap.size) w w2) [] w2 ∧ (∀ k, PBn (fun k => PB k ∨ k = wb ∨ k = eb ∨ k = sb ∨ k < w0.heap.size) w w2 k → k < w2.heap.size) := by
  have hlt := hI.lt hPB
  refine ⟨⟨?_, blk_below hI.hE hb, blk_below hI.hS hb, hG⟩, PBn.lt hlt hb⟩
  rw [List.map_nil, List.append_nil]
  refine C.less (C.more hlt hI.hi hb) ?_
  rintro k (h | rfl | rfl | rfl)
  · exact h
  · exact .inl (.inr (.inr (.inl rfl)))
  · exact .inl (.inr (.inr (.inr (.inl rfl))))
  · exact .inr ⟨hG0, blk_lt hG⟩
set_option maxHeartbeats 8000000 in
set_option maxRecDepth 100000 in
theorem each1_move (C : Cb Tryz.prog g cb I N) {w0 : World} {wb eb sb : Nat} {sv al : Int} {l : List Int} {a0 a1 : Int} {A2 : Option Addr} {c2 : Nat} {l2 : List Int} {A3 : Option Addr} {c3 : Nat} {l3 : List Int} {k n : Nat} {D0 : List Int} {PB : Nat → Prop} {D : List Int} {w : World}
    (hT : TzTab w0) (hr2 : Kd.C (Kd.int .i64) w0 A2 l2.length l2) (hc2 : l2.length ≤ c2) (hr3 : Kd.C (Kd.int .i64) w0 A3 l3.length l3) (hc3 : l3.length ≤ c3) (hal : impl_grid_all.f a0 a1 = some al) (hl : impl_set_listed.f k (Go.bits .andNot .u64 al sv) = some l) (hn : n ≤ 1000000) (hl1 : l.length ≤ 1000000) (hl0 : ∀ b ∈ l, 0 ≤ b)
    (s : Int) (hPB : ∀ k, PB k → k < w.heap.size) (hI : I1 I g cb w0 wb eb sb (wyC a0 a1 A2 c2 l2 A3 c3 l3 n true) sv (inM true n sv l) D0 PB D w) (hN : (D0 ++ D.flatMap (inM true n sv l)).length + (chB fI n 0 l).length ≤ N) :
    Calls Tryz.prog 114 (#[.int .u64 s] ++ #[.pointer (some ⟨wb, 0, none⟩), .pointer (some ⟨eb, 0, none⟩), .pointer (some ⟨sb, 0, none⟩)]) w fun e w' => e = .returned (.tuple #[]) ∧ I1 I g cb w0 wb eb sb (wyC a0 a1 A2 c2 l2 A3 c3 l3 n true) sv (inM true n sv l) D0 PB (D ++ [s]) w' ∧ Keeps PB w w' := by
  have HLE := Aside0.mk @C.less
  have HI := Aside0.mk hI
  have HPB := Aside0.mk hPB
  have HGR := Aside0.mk (fun W (hb : Below w0.heap.size w0 W) => impl_Figure_grid.calls a0 a1 A2 c2 l2 A3 c3 l3 a0 a1 W (Kd.C_below hr2 hb) hc2 (Kd.C_below hr3 hb) hc3 rfl)
  have HAL := Aside0.mk (fun W => impl_grid_all.calls a0 a1 al W hal)
  have HSU := Aside0.mk (fun G PB' w' (hb : Below w0.heap.size w0 w') h1 h2 => subsets_calls (each11_cb C eb sb G sv s (D0 ++ D.flatMap (inM true n sv l))) k n (Go.bits .andNot .u64 al sv) (n : Int) l PB' [] w' (tz_below hT hb) rfl hl hn hl1 hl0 h1 h2 (by simp at hN ⊢; omega))
  have HIN := Aside0.mk (fun G w2 => each1_inner (G := G) (s := s) (w2 := w2) C hPB hI)
  clear C hI hPB hN hT hr2 hr3 hal hl
  have hu1 := Tryz.underlying80
  have hu2 := Tryz.underlying56
  have hu3 := Tryz.underlying30
  go_enter Tryz.func114, Tryz.ntmps114
  go_wp2_with ((with_reducible refine gate_dst (N := 4) rfl ?_); refine zbx 4 #[.int .u64 s] 56 ?_; intro G hG w1 hboxG hb1; have HBG := Aside0.mk hboxG; have HB1 := Aside0.mk hb1; have HB01 := Aside0.mk (HI.out.hB.trans (hb1.mono HI.out.hB.size)); have HG0 := Aside0.mk (Nat.le_of_eq hG.symm); have hW1 := blk_below HI.out.hW hb1; have cW : w1.cell? ⟨wb, 5, none⟩ = some (.bool true) := (blk_cell hW1 5).trans rfl; have k0 : w1.cell? ⟨wb, 0, none⟩ = some (.int .i64 a0) := (blk_cell hW1 0).trans rfl; have k1 : w1.cell? ⟨wb, 1, none⟩ = some (.int .i64 a1) := (blk_cell hW1 1).trans rfl; have k2 : w1.cell? ⟨wb, 2, none⟩ = some (.slice A2 l2.length c2) := (blk_cell hW1 2).trans rfl; have k3 : w1.cell? ⟨wb, 3, none⟩ = some (.slice A3 l3.length c3) := (blk_cell hW1 3).trans rfl; have k4 : w1.cell? ⟨wb, 4, none⟩ = some (.int .i64 n) := (blk_cell hW1 4).trans rfl; have cS : w1.cell? ⟨sb, 0, none⟩ = some (.int .u64 sv) := (blk_cell (blk_below HI.out.hS hb1) 0).trans rfl; clear hG hboxG hb1 hW1)
  go_region_held3 (fun W => W.cell? ⟨wb, 0, none⟩ = some (.int .i64 a0) ∧ W.cell? ⟨wb, 1, none⟩ = some (.int .i64 a1) ∧ W.cell? ⟨wb, 2, none⟩ = some (.slice A2 l2.length c2) ∧ W.cell? ⟨wb, 3, none⟩ = some (.slice A3 l3.length c3) ∧ W.cell? ⟨wb, 4, none⟩ = some (.int .i64 n) ∧ W.cell? ⟨sb, 0, none⟩ = some (.int .u64 sv))
    (first
      | (go_split_ands; exact ⟨hK4.cell (.inl (.inr (.inl rfl))) (pw_cell_below hb3 (pw_cell_below hb2 k0)), hK4.cell (.inl (.inr (.inl rfl))) (pw_cell_below hb3 (pw_cell_below hb2 k1)), hK4.cell (.inl (.inr (.inl rfl))) (pw_cell_below hb3 (pw_cell_below hb2 k2)), hK4.cell (.inl (.inr (.inl rfl))) (pw_cell_below hb3 (pw_cell_below hb2 k3)), hK4.cell (.inl (.inr (.inl rfl))) (pw_cell_below hb3 (pw_cell_below hb2 k4)), hK4.cell (.inl (.inr (.inr (.inr (.inl rfl))))) (pw_cell_below hb3 (pw_cell_below hb2 cS))⟩)
      | (go_split_ands; exact ⟨pw_cell_below hb3 (pw_cell_below hb2 k0), pw_cell_below hb3 (pw_cell_below hb2 k1), pw_cell_below hb3 (pw_cell_below hb2 k2), pw_cell_below hb3 (pw_cell_below hb2 k3), pw_cell_below hb3 (pw_cell_below hb2 k4), pw_cell_below hb3 (pw_cell_below hb2 cS)⟩)
      | (go_split_ands; exact ⟨pw_cell_below hb2 k0, pw_cell_below hb2 k1, pw_cell_below hb2 k2, pw_cell_below hb2 k3, pw_cell_below hb2 k4, pw_cell_below hb2 cS⟩)
      | go_keep)
    (first
      | (go_at_call 42; refine (HGR.out _ (below_drew1 HB01.out)).mono ?_; rintro e w2 ⟨rfl, hb2⟩)
      | (go_at_call 67; refine (HAL.out _).mono ?_; rintro e w3 ⟨rfl, hb3⟩)
      | (go_at_call 113; obtain ⟨hi2, hp2⟩ := HIN.out G w3 (below_step (below_step (below_drew1 HB1.out) hb2) hb3) HG0.out (blk_below (blk_below (blk_drew HBG.out) hb2) hb3); refine (HSU.out G _ w3 (below_step (below_step (below_drew1 HB01.out) hb2) hb3) hp2 hi2).mono ?_; rintro e w4 ⟨rfl, hI4, hK4⟩))
  all_goals
    first | go_end0 | ((try simp only [Exit.inBlock, Exit.then]); refine bodyPost_ret (results_none rfl _ _ _) rfl ?_)
    have hk := (Keeps.of_below (HI.out.lt HPB.out) (below_step (below_step (below_drew1 HB1.out) hb2) hb3)).trans (hK4.less (fun k hk => Or.inl hk))
    refine ⟨rfl, HI.out.keeps hk ?_, hk.less (fun k hk => Or.inl hk)⟩
    have := HLE.out hI4.1 (fun k hk => Or.inl (Or.inl hk))
    rw [List.nil_append, List.append_assoc] at this
    rw [List.flatMap_append]
    simpa [inM] using this
end
theorem chB_len (f f' : Int → Int → Int) : ∀ (l l' : List Int) (n : Nat) (own own' : Int), l.length = l'.length → (chB f n own l).length = (chB f' n own' l').length
  | l, l', 0, _, _, _ => by rw [chB, chB]; rfl
  | [], [], _ + 1, _, _, _ => rfl
  | [], _ :: _, _ + 1, _, _, h => by simp at h
  | _ :: _, [], _ + 1, _, _, h => by simp at h
  | b :: r, b' :: r', n + 1, own, own', h => by
    have h' : r.length = r'.length := by simpa using h
    rw [chB, chB, List.length_append, List.length_append, chB_len f f' r r' n _ (f' own' b') h', chB_len f f' r r' (n + 1) own own' h']
theorem flat_len {α : Type} (f : α → List Int) (m : Nat) : ∀ L : List α, (∀ x ∈ L, (f x).length = m) → (L.flatMap f).length = L.length * m
  | [], _ => by simp
  | x :: L, h => by
    rw [List.flatMap_cons, List.length_append, h x List.mem_cons_self, flat_len f m L (fun y hy => h y (List.mem_cons_of_mem _ hy)), List.length_cons, Nat.add_mul, Nat.one_mul, Nat.add_comm]
theorem inM_len (mv : Bool) (n : Nat) (sv : Int) (l : List Int) (gone : Int) : (inM mv n sv l gone).length = inL mv n l := by
  unfold inM inL
  split <;> simp
section
variable {g : FuncId} {cb : Array Value} {I : (Nat → Prop) → List Int → World → Prop} {N : Nat}
theorem each1_cb (C : Cb Tryz.prog g cb I N) (w0 : World) (wb eb sb : Nat) {sv al : Int} {l : List Int} {a0 a1 : Int} {A2 : Option Addr} {c2 : Nat} {l2 : List Int} {A3 : Option Addr} {c3 : Nat} {l3 : List Int} {k n N1 : Nat} {mv : Bool} {D0 : List Int}
    (hT : TzTab w0) (hr2 : Kd.C (Kd.int .i64) w0 A2 l2.length l2) (hc2 : l2.length ≤ c2) (hr3 : Kd.C (Kd.int .i64) w0 A3 l3.length l3) (hc3 : l3.length ≤ c3) (hal : mv = true → impl_grid_all.f a0 a1 = some al) (hl : mv = true → impl_set_listed.f k (Go.bits .andNot .u64 al sv) = some l) (hn : n ≤ 1000000) (hl1 : l.length ≤ 1000000) (hl0 : ∀ b ∈ l, 0 ≤ b) (hN : D0.length + N1 * inL mv n l ≤ N) :
    Cb Tryz.prog 114 #[.pointer (some ⟨wb, 0, none⟩), .pointer (some ⟨eb, 0, none⟩), .pointer (some ⟨sb, 0, none⟩)] (I1 I g cb w0 wb eb sb (wyC a0 a1 A2 c2 l2 A3 c3 l3 n mv) sv (inM mv n sv l) D0) N1 where
  enters := enters65
  more := by
    intro PB D w w' hPB h hb
    refine ⟨C.less (C.more (h.lt hPB) h.hi hb) ?_, blk_below h.hW hb, blk_below h.hE hb, blk_below h.hS hb, below_step h.hB hb⟩
    rintro k ((q | q) | q)
    · exact .inl (.inl q)
    · exact .inr q
    · exact .inl (.inr q)
  less := fun h hp => ⟨C.less h.hi (fun k hk => hk.imp (hp k) id), h.hW, h.hE, h.hS, h.hB⟩
  drew := fun h => ⟨C.drew h.hi, h.hW, h.hE, h.hS, below_drew1 h.hB⟩
  call := by
    intro PB D w s hPB h hlt _ _
    have hlen : (D0 ++ D.flatMap (inM mv n sv l)).length = D0.length + D.length * inL mv n l := by rw [List.length_append, flat_len _ _ _ (fun x _ => inM_len mv n sv l x)]
    have hmul : (D.length + 1) * inL mv n l ≤ N1 * inL mv n l := Nat.mul_le_mul_right _ hlt
    rw [Nat.add_mul, Nat.one_mul] at hmul
    cases mv with
    | false =>
      have e1 : inL false n l = 1 := rfl
      rw [e1] at hlen hmul hN
      exact each1_take C s hPB h (by omega)
    | true =>
      have e1 : inL true n l = (chB fI n 0 l).length := rfl
      rw [e1] at hlen hmul hN
      exact each1_move C hT hr2 hc2 hr3 hc3 (hal rfl) (hl rfl) hn hl1 hl0 s hPB h (by omega)
set_option maxHeartbeats 8000000 in
set_option maxRecDepth 100000 in
theorem each_calls (C : Cb Tryz.prog g cb I N) {sv al : Int} {lg l : List Int} {a0 a1 : Int} {A2 : Option Addr} {c2 : Nat} {l2 : List Int} {A3 : Option Addr} {c3 : Nat} {l3 : List Int} {k n : Nat} {q : Int} {mv : Bool} {D0 : List Int} {PB : Nat → Prop} {w0 w : World} (hq : q = n) (hB0 : Below w0.heap.size w0 w) (hP0 : ∀ k, k < w0.heap.size → PB k)
    (hT : TzTab w0) (hr2 : Kd.C (Kd.int .i64) w0 A2 l2.length l2) (hc2 : l2.length ≤ c2) (hr3 : Kd.C (Kd.int .i64) w0 A3 l3.length l3) (hc3 : l3.length ≤ c3) (hs : impl_Figure_set.f k a0 a1 l2 l3 = some sv) (hlg : impl_set_listed.f k sv = some lg) (hlg1 : lg.length ≤ 1000000) (hlg0 : ∀ b ∈ lg, 0 ≤ b)
    (hal : mv = true → impl_grid_all.f a0 a1 = some al) (hl : mv = true → impl_set_listed.f k (Go.bits .andNot .u64 al sv) = some l) (hn : n ≤ 1000000) (hl1 : l.length ≤ 1000000) (hl0 : ∀ b ∈ l, 0 ≤ b) (hPB : ∀ k, PB k → k < w.heap.size) (hI : I PB D0 w) (hN : D0.length + (chB fI n 0 lg).length * inL mv n l ≤ N) :
    Calls Tryz.prog 90 #[.agg #[.int .i64 a0, .int .i64 a1, .slice A2 l2.length c2, .slice A3 l3.length c3, .int .i64 q, .bool mv], .func (.func g) #[] cb] w fun e w' => e = .returned (.tuple #[]) ∧ I PB (D0 ++ (chB fI n 0 lg).flatMap (inM mv n sv l)) w' ∧ Keeps PB w w' := by
  subst hq
  have HST := Aside0.mk (fun W (hb : Below w0.heap.size w0 W) => impl_Figure_set.calls k a0 a1 A2 c2 l2 A3 c3 l3 sv W (Kd.C_below hr2 hb) hc2 (Kd.C_below hr3 hb) hc3 hs)
  have HSU := Aside0.mk (fun wb eb sb PB' w' (hb : Below w0.heap.size w0 w') h1 h2 => subsets_calls (each1_cb C w0 wb eb sb hT hr2 hc2 hr3 hc3 hal hl hn hl1 hl0 hN) k n sv (n : Int) lg PB' [] w' (tz_below hT hb) rfl hlg hn hlg1 hlg0 h1 h2 (by simp))
  have HMO := Aside0.mk (fun w' => C.more (w' := w') hPB hI)
  have HLE := Aside0.mk @C.less
  have HPB := Aside0.mk hPB
  have HB0 := Aside0.mk hB0
  have HP0 := Aside0.mk hP0
  clear C hT hr2 hr3 hs hlg hlg1 hlg0 hal hl hl1 hl0 hPB hI hN hB0 hP0
  have hu1 := Tryz.underlying80
  have hu2 := Tryz.underlying56
  have hu3 := Tryz.underlying30
  have hu4 := Tryz.underlying104
  go_enter Tryz.func90, Tryz.ntmps90
  go_wp2_with (first
    | ((with_reducible refine gate_dst (N := 2) rfl ?_); refine zbx 2 #[.int .i64 a0, .int .i64 a1, .slice A2 l2.length c2, .slice A3 l3.length c3, .int .i64 n, .bool mv] 80 ?_; intro B hB w1 hboxB hb1; have HBW := Aside0.mk hboxB; have HB1 := Aside0.mk hb1; have HW0 := Aside0.mk (Nat.le_of_eq hB.symm); clear hB hboxB hb1)
    | ((with_reducible refine gate_dst (N := 3) rfl ?_); refine zbx 3 #[.func (.func g) #[] cb] 104 ?_; intro E hE w2 hboxE hb2; have HBE := Aside0.mk hboxE; have HB2 := Aside0.mk (below_step HB1.out hb2); have HE0 := Aside0.mk (Nat.le_trans HB1.out.size (Nat.le_of_eq hE.symm)); have HBW2 := Aside0.mk (blk_below HBW.out hb2); have k0 : w2.cell? ⟨B, 0, none⟩ = some (.int .i64 a0) := (blk_cell HBW2.out 0).trans rfl; have k1 : w2.cell? ⟨B, 1, none⟩ = some (.int .i64 a1) := (blk_cell HBW2.out 1).trans rfl; have k2 : w2.cell? ⟨B, 2, none⟩ = some (.slice A2 l2.length c2) := (blk_cell HBW2.out 2).trans rfl; have k3 : w2.cell? ⟨B, 3, none⟩ = some (.slice A3 l3.length c3) := (blk_cell HBW2.out 3).trans rfl; clear hE hboxE hb2))
  refine (HST.out _ (HB0.out.trans (HB2.out.mono HB0.out.size))).mono ?_
  rintro e w3 ⟨rfl, hb3⟩
  have HB3 := Aside0.mk (below_step HB2.out hb3)
  have HBE3 := Aside0.mk (blk_below HBE.out hb3)
  have HBW3 := Aside0.mk (blk_below HBW2.out hb3)
  clear hb3 k0 k1 k2 k3
  go_wp2_with ((with_reducible refine gate_dst (N := 4) rfl ?_); refine zbx 4 #[.int .u64 0] 56 ?_; intro S hS w4 hboxS hb4; have HBS := Aside0.mk hboxS; have HB4 := Aside0.mk (below_step HB3.out hb4); have HS0 := Aside0.mk (Nat.le_trans HB3.out.size (Nat.le_of_eq hS.symm)); have HSW := Aside0.mk (Nat.ne_of_lt (Nat.lt_of_lt_of_le (blk_lt HBW3.out) (Nat.le_of_eq hS.symm))); have HSE := Aside0.mk (Nat.ne_of_lt (Nat.lt_of_lt_of_le (blk_lt HBE3.out) (Nat.le_of_eq hS.symm))); have HBE4 := Aside0.mk (blk_below HBE3.out hb4); have HBW4 := Aside0.mk (blk_below HBW3.out hb4); have cS : w4.cell? ⟨S, 0, none⟩ = some (.int .u64 0) := (blk_cell hboxS 0).trans rfl; have fS := blk_frozen hboxS 0; have k4 : w4.cell? ⟨B, 4, none⟩ = some (.int .i64 n) := (blk_cell HBW4.out 4).trans rfl; clear hS hboxS hb4)
  have hbw : Below w.heap.size w (w4.setCell ⟨S, 0, none⟩ (.int .u64 sv)) := below_set HB4.out HS0.out
  have hpl := PBn.lt HPB.out hbw
  have hi1 : I1 I g cb w0 B E S (wyC a0 a1 A2 c2 l2 A3 c3 l3 n mv) sv (inM mv n sv l) D0 (PBn PB w (w4.setCell ⟨S, 0, none⟩ (.int .u64 sv))) [] (w4.setCell ⟨S, 0, none⟩ (.int .u64 sv)) := by
    have s5 : (w4.setCell ⟨S, 0, none⟩ (.int .u64 sv)).heap.size = w4.heap.size := by simp [World.setCell]
    refine ⟨?_, blk_far HBW4.out (p := ⟨S, 0, none⟩) HSW.out _, blk_far HBE4.out (p := ⟨S, 0, none⟩) HSE.out _, blk_put (cs := #[.int .u64 0]) HBS.out 0 _ rfl, HB0.out.trans (hbw.mono HB0.out.size)⟩
    rw [List.flatMap_nil, List.append_nil]
    refine HLE.out (HMO.out _ hbw) ?_
    rintro k (h | rfl | rfl | rfl | h)
    · exact h
    · exact .inr ⟨HW0.out, by rw [s5]; exact blk_lt HBW4.out⟩
    · exact .inr ⟨HE0.out, by rw [s5]; exact blk_lt HBE4.out⟩
    · exact .inr ⟨HS0.out, by rw [s5]; exact blk_lt HBS.out⟩
    · exact .inl (HP0.out k h)
  refine (HSU.out B E S _ _ (HB0.out.trans (hbw.mono HB0.out.size)) hpl hi1).mono ?_
  rintro e w5 ⟨rfl, hI5, hK5⟩
  have HI5 := Aside0.mk (HLE.out hI5.hi (fun k hk => Or.inl (Or.inl hk)))
  have HK5 := Aside0.mk ((Keeps.of_below HPB.out hbw).trans (hK5.less (fun k hk => Or.inl hk)))
  clear hI5 hK5 hbw hpl hi1
  go_wp2_with fail
  first | go_end0 | ((try simp only [Exit.inBlock, Exit.then]); refine bodyPost_ret (results_none rfl _ _ _) rfl ?_)
  exact ⟨rfl, by simpa using HI5.out, HK5.out⟩
end
theorem wy_ne {w : World} {a b : Nat} {c d : Array Value} {t u : TypeId} (ha : w.heap[a]? = some (.cells c t (0, 0))) (hb : w.heap[b]? = some (.cells d u (0, 0))) (h : t ≠ u) : a ≠ b := blk_ne ha hb h
theorem countOf_tot (sqs : List S127) (s : Int) (hb : sqs.length ≤ 1000) : ∀ (d i k : Nat) (c : Int), i + d = sqs.length → d < k → ∃ r, impl_countOf.l0 k s c sqs (sqs.length : Int) i = some r
  | 0, i, k, c, hi, hk => by
    obtain ⟨k, rfl⟩ : ∃ q, k = q + 1 := ⟨k - 1, by omega⟩
    exact ⟨c, by simp only [impl_countOf.l0]; rw [if_neg (by omega)]⟩
  | d + 1, i, k, c, hi, hk => by
    obtain ⟨k, rfl⟩ : ∃ q, k = q + 1 := ⟨k - 1, by omega⟩
    simp only [impl_countOf.l0]
    rw [if_pos (by omega), if_pos (by omega), if_pos (by omega)]
    have e : wrap64 ((i : Int) + 1) = ((i + 1 : Nat) : Int) := by unfold wrap64; omega
    rw [e]
    unfold impl_bit.f
    split <;> (rw [Option.bind_some]; exact countOf_tot sqs s hb d (i + 1) k _ (by omega) (by omega))
theorem needless_tot (sqs : List S127) (hb : sqs.length ≤ 1000) : ∀ (d i k : Nat) (o : Int), i + d = sqs.length → d < k → ∃ r, impl_needless.l0 k o sqs (sqs.length : Int) i = some r
  | 0, i, k, c, hi, hk => by
    obtain ⟨k, rfl⟩ : ∃ q, k = q + 1 := ⟨k - 1, by omega⟩
    exact ⟨c, by simp only [impl_needless.l0]; rw [if_neg (by omega)]⟩
  | d + 1, i, k, c, hi, hk => by
    obtain ⟨k, rfl⟩ : ∃ q, k = q + 1 := ⟨k - 1, by omega⟩
    simp only [impl_needless.l0]
    rw [if_pos (by omega), if_pos (by omega), if_pos (by omega)]
    have e : wrap64 ((i : Int) + 1) = ((i + 1 : Nat) : Int) := by unfold wrap64; omega
    rw [e]
    exact needless_tot sqs hb d (i + 1) k _ (by omega) (by omega)
theorem with_tot (k : Nat) (sqs : List S127) (s : Int) (hb : sqs.length ≤ 1000) (hk : sqs.length < k) : (∃ c, impl_countOf.f k sqs s = some c) ∧ ∃ z, impl_needless.f k sqs s = some z := by
  refine ⟨countOf_tot sqs s hb sqs.length 0 k 0 (Nat.zero_add _) hk, ?_⟩
  unfold impl_needless.f impl_of.f
  rw [if_pos (by omega), Option.bind_some]
  have hf := List.length_filter_le (ofP s) sqs
  exact needless_tot _ (by omega) _ 0 k s (Nat.zero_add _) (by omega)
section
/-- what the search's callback holds of the memory -/
structure IW (b0 lb qb tb ob : Nat) (A : Option Addr) (c : Nat) (sqs : List S127) (squares : Int) (tidy : Bool) (p : Int → Bool) (PB : Nat → Prop) (D : List Int) (w : World) : Prop where
  hl : w.heap[lb]? = some (.cells #[.slice A sqs.length c] 99 (0, 0))
  hq : w.heap[qb]? = some (.cells #[.int .i64 squares] 3 (0, 0))
  ht : w.heap[tb]? = some (.cells #[.bool tidy] 4 (0, 0))
  hs : Kd.R k127 127 w b0 (fun _ => True) (.slice A sqs.length c) sqs
  ho : ∃ v, w.heap[ob]? = some (.cells #[v] 78 (0, 0)) ∧ Kd.R (Kd.int .u64) 56 w b0 (fun k => ¬ PB k) v (D.filter p)
  hb : b0 ≤ w.heap.size
  nb : ¬ PB ob
theorem sq_ne {t : Nat} (h : 127 ≠ t) : ∀ q, q ∈ 127 :: k127.E → q ≠ t := by
  intro q hq
  rw [show k127.E = [] from rfl, List.mem_singleton] at hq
  rw [hq]
  exact h
theorem su_ne {t : Nat} (h : 56 ≠ t) : ∀ q, q ∈ 56 :: (Kd.int .u64).E → q ≠ t := by
  intro q hq
  rw [show (Kd.int .u64).E = [] from rfl, List.mem_singleton] at hq
  rw [hq]
  exact h
theorem wi_info : (Tryz.prog.info? 56).map (fun i => (i.zero, i.size, i.bytes)) = some (some (.int .u64 0), 1, 8) := by kernel_rfl
variable {b0 lb qb tb ob : Nat} {A : Option Addr} {c : Nat} {sqs : List S127} {squares : Int} {tidy : Bool} {p : Int → Bool} {PB PB' : Nat → Prop} {D : List Int} {w w' : World}
theorem IW.below (h : IW b0 lb qb tb ob A c sqs squares tidy p PB D w) (hPB : ∀ k, PB k → k < w.heap.size) (hb : Below w.heap.size w w') : IW b0 lb qb tb ob A c sqs squares tidy p (PBn PB w w') D w' := by
  obtain ⟨v, ho, hr⟩ := h.ho
  refine ⟨blk_below h.hl hb, blk_below h.hq hb, blk_below h.ht hb, Kd.R_below h.hs hb, ⟨v, blk_below ho hb, Kd.R_mono (Kd.R_bound (Kd.R_below (Kd.R_bound hr) hb)) ?_⟩, Nat.le_trans h.hb hb.size, ?_⟩
  · rintro k ⟨⟨h1, h2, h3, h4⟩, h5⟩ (q | q)
    · exact h1 q
    · omega
  · rintro (q | q)
    · exact h.nb q
    · have := blk_lt ho; omega
theorem IW.less (h : IW b0 lb qb tb ob A c sqs squares tidy p PB D w) (hp : ∀ k, PB' k → PB k) : IW b0 lb qb tb ob A c sqs squares tidy p PB' D w := by
  obtain ⟨v, ho, hr⟩ := h.ho
  exact ⟨h.hl, h.hq, h.ht, h.hs, ⟨v, ho, Kd.R_mono hr (fun k hk q => hk (hp k q))⟩, h.hb, fun q => h.nb (hp _ q)⟩
theorem IW.drew (h : IW b0 lb qb tb ob A c sqs squares tidy p PB D w) : IW b0 lb qb tb ob A c sqs squares tidy p PB D w.drew := by
  obtain ⟨v, ho, hr⟩ := h.ho
  exact ⟨h.hl, h.hq, h.ht, Kd.R_drew h.hs, ⟨v, ho, Kd.R_drew hr⟩, h.hb, h.nb⟩
/-- the set was handed in vain -/
theorem IW.skip {s : Int} (h : IW b0 lb qb tb ob A c sqs squares tidy p PB D w) (hPB : ∀ k, PB k → k < w.heap.size) (hb : Below w.heap.size w w') (hp : p s = false) : IW b0 lb qb tb ob A c sqs squares tidy p PB (D ++ [s]) w' ∧ Keeps PB w w' := by
  have h2 := (h.below hPB hb).less (PB' := PB) (fun k hk => .inl hk)
  refine ⟨⟨h2.hl, h2.hq, h2.ht, h2.hs, ?_, h2.hb, h2.nb⟩, Keeps.of_below hPB hb⟩
  rw [List.filter_append, List.filter_cons_of_neg (by simp [hp]), List.filter_nil, List.append_nil]
  exact h2.ho
/-- the set is kept: appended to the list in the variable -/
theorem IW.keep {s : Int} {w1 w2 : World} {v v1 : Value} (h : IW b0 lb qb tb ob A c sqs squares tidy p PB D w) (hPB : ∀ k, PB k → k < w.heap.size) (hb : Below w.heap.size w w1) (hp : p s = true) (hv : w1.heap[ob]? = some (.cells #[v] 78 (0, 0))) (hv0 : Kd.R (Kd.int .u64) 56 w1 b0 (fun k => ¬ PB k) v (D.filter p))
    (hr : Kd.R (Kd.int .u64) 56 w2 b0 (fun k => ¬ PB k) v1 (D.filter p ++ [s])) (hg : w1.grownBy w2 v.ownBlock) : w2.heap[ob]? = some (.cells #[v] 78 (0, 0)) ∧ IW b0 lb qb tb ob A c sqs squares tidy p PB (D ++ [s]) (w2.setCell ⟨ob, 0, none⟩ v1) ∧ Keeps PB w (w2.setCell ⟨ob, 0, none⟩ v1) := by
  have h1 := h.below hPB hb
  have ne : ∀ {b : Nat} {cs : Array Value} {t : TypeId}, w1.heap[b]? = some (.cells cs t (0, 0)) → 56 ≠ t → w2.heap[b]? = some (.cells cs t (0, 0)) := fun hb ht => blk_grown hb hg (Kd.R_ne hv0 hb ht)
  have hv2 := ne hv (by decide)
  have hl2 := ne h1.hl (by decide)
  have hq2 := ne h1.hq (by decide)
  have ht2 := ne h1.ht (by decide)
  have hs2 : Kd.R k127 127 w2 b0 (fun _ => True) (.slice A sqs.length c) sqs := by
    refine Kd.R_mono (Kd.R_grown (Kd.R_bound h1.hs) hg ?_) (fun _ _ => trivial)
    rintro k ⟨_, _, _, q, hq, cs, hc⟩ e
    rw [show k127.E = [] from rfl, List.mem_singleton] at hq
    subst hq
    exact Kd.R_ne hv0 hc (by decide) e
  have sz : (w2.setCell ⟨ob, 0, none⟩ v1).heap.size = w2.heap.size := by simp [World.setCell]
  refine ⟨hv2, ⟨blk_far hl2 (wy_ne hl2 hv2 (by decide)) _, blk_far hq2 (wy_ne hq2 hv2 (by decide)) _, blk_far ht2 (wy_ne ht2 hv2 (by decide)) _, Kd.R_set hs2 hv2 (sq_ne (by decide)) 0 v1, ⟨v1, blk_put (cs := #[v]) hv2 0 _ rfl, ?_⟩, by rw [sz]; exact Nat.le_trans h.hb (Nat.le_trans hb.size hg.size), h.nb⟩, ?_⟩
  · rw [List.filter_append, List.filter_cons_of_pos hp, List.filter_nil]
    refine Kd.R_set hr hv2 (su_ne (by decide)) 0 v1
  · refine ⟨hg.os.trans hb.os, hg.tape.trans hb.tape, hg.output.trans hb.output, by rw [sz]; exact Nat.le_trans hb.size hg.size, fun k hk => ?_⟩
    have hlt := hPB k hk
    rw [Below.heap_setCell _ _ _ k (fun e => h.nb (by rw [← show k = ob from e]; exact hk)), hg.block k (Nat.lt_of_lt_of_le hlt hb.size) (fun e => hv0.1 k e.symm hk), hb.block k hlt]
end
theorem enters59 : ∀ args w, (callFunc 91 args).run Tryz.prog w = .ok (.enter 91 args) w := fun args w => enters_ Tryz.func91 (by kernel_rfl) rfl args w
section
variable {b0 lb qb tb ob : Nat} {A : Option Addr} {c : Nat} {sqs : List S127} {squares : Int} {tidy : Bool} {k : Nat} {PB : Nat → Prop} {D : List Int} {w : World}
set_option maxHeartbeats 8000000 in
set_option maxRecDepth 100000 in
theorem with1_call (hk : sqs.length < k) (hb : sqs.length ≤ 1000) (s : Int) (hPB : ∀ k, PB k → k < w.heap.size) (hI : IW b0 lb qb tb ob A c sqs squares tidy (wiP k sqs squares tidy) PB D w) (hN : D.length < 1000000) :
    Calls Tryz.prog 91 (#[.int .u64 s] ++ #[.pointer (some ⟨lb, 0, none⟩), .pointer (some ⟨qb, 0, none⟩), .pointer (some ⟨tb, 0, none⟩), .pointer (some ⟨ob, 0, none⟩)]) w fun e w' => e = .returned (.tuple #[]) ∧ IW b0 lb qb tb ob A c sqs squares tidy (wiP k sqs squares tidy) PB (D ++ [s]) w' ∧ Keeps PB w w' := by
  obtain ⟨⟨n, hn⟩, ⟨z, hz⟩⟩ := with_tot k sqs s hb hk
  have hP : wiP k sqs squares tidy s = (n == squares && (!tidy || z == 0)) := by
    unfold wiP
    rw [hn, hz]
    simp
  have cl : w.cell? ⟨lb, 0, none⟩ = some (.slice A sqs.length c) := (blk_cell hI.hl 0).trans rfl
  have cq : w.cell? ⟨qb, 0, none⟩ = some (.int .i64 squares) := (blk_cell hI.hq 0).trans rfl
  have ct : w.cell? ⟨tb, 0, none⟩ = some (.bool tidy) := (blk_cell hI.ht 0).trans rfl
  have HSQ := Aside0.mk (Kd.R_reads' hI.hs)
  have HCO := Aside0.mk (fun W hr hc => impl_countOf.calls k A c sqs s n W hr hc hn)
  have HNE := Aside0.mk (fun W hr hc => impl_needless.calls k A c sqs s z W hr hc hz)
  have HI := Aside0.mk hI
  have HPB := Aside0.mk hPB
  have HN := Aside0.mk hN
  have HP := Aside0.mk hP
  clear hI hPB hN hn hz hP hk hb
  by_cases h1 : n = squares
  · subst h1
    have hnn : (n == n) = true := by simp
    cases tidy with
    | false =>
      have HP1 : Aside0 (wiP k sqs n false s = true) := ⟨by rw [HP.out]; simp⟩
      clear HP
      go_enter Tryz.func91, Tryz.ntmps91
      go_wp2
      refine start_ (n := 15) (S := fun w' => w'.cell? ⟨lb, 0, none⟩ = some (.slice A sqs.length c) ∧ w'.cell? ⟨qb, 0, none⟩ = some (.int .i64 n) ∧ w'.cell? ⟨tb, 0, none⟩ = some (.bool false)) (ds := []) #[false, false, false, false, false, false, false, false, false, false, false, false, false, false, false] (by kernel_rfl) rfl rfl ⟨cl, cq, ct⟩ (fun hHeld => ?_)
      refine pure_ (i := 1) (N := some 7) (v := ?_) (a' := ?_) #[false, true, false, false, false, false, false, false, false, false, false, false, false, false, false] rfl rfl (by kernel_rfl) (fun _ _ _ h => h) (Or.inl ⟨by rfl, ?_⟩) ?_ ?_
      rotate_left
      · intro w'
        go_simp
        with_reducible rfl
      rotate_left
      · simp only [Act.put, List.setIfInBounds_toArray, List.set_cons_zero, List.set_cons_succ, i64_w, i32_w]
        rfl
      refine take_ (i := 0) (N := some 6) (v := ?_) (a' := ?_) #[true, true, false, false, false, false, false, false, false, false, false, false, false, false, false] rfl rfl (by kernel_rfl) (fun _ _ _ h => h) (Or.inl ⟨by rfl, ?_⟩) hHeld ?_ ?_
      rotate_left
      · rintro w' ⟨s0, s1, s2⟩
        go_simp
        with_reducible rfl
      rotate_left
      · simp only [Act.put, List.setIfInBounds_toArray, List.set_cons_zero, List.set_cons_succ, i64_w, i32_w]
        rfl
      refine take_ (i := 3) (N := some 9) (v := ?_) (a' := ?_) #[true, true, false, true, false, false, false, false, false, false, false, false, false, false, false] rfl rfl (by kernel_rfl) (fun _ _ _ h => h) (Or.inl ⟨by rfl, ?_⟩) hHeld ?_ ?_
      rotate_left
      · rintro w' ⟨s0, s1, s2⟩
        go_simp
        with_reducible rfl
      rotate_left
      · simp only [Act.put, List.setIfInBounds_toArray, List.set_cons_zero, List.set_cons_succ, i64_w, i32_w]
        rfl
      refine one_ (i := 2) (N := some 8) #[true, true, true, true, false, false, false, false, false, false, false, false, false, false, false] rfl rfl (by kernel_rfl) (by decide) (fun K hK => ?_)
      refine goes_ Tryz.func92 (by kernel_rfl) rfl #[.slice A sqs.length c, .int .u64 s] (by rfl) rfl rfl (by simp only [List.map_toArray, List.map_cons, List.map_nil]; rfl) ?_
      with_reducible refine (HCO.out _ (Kd.C_below HSQ.out.2.2 (below_drew1 (Below.refl _ _))) HSQ.out.2.1).mono ?_
      rintro e w2 ⟨rfl, hb2⟩
      refine ⟨_, rfl, ?_⟩
      refine hK.out _ _ ⟨pw_cell_below hb2 cl, pw_cell_below hb2 cq, pw_cell_below hb2 ct⟩ (fun hHeld => ?_)
      clear hK K
      refine norm_ (a' := ?_) ?_ ?_
      rotate_left
      · show Act.put _ (some 8) _ = _
        simp only [Act.put, List.setIfInBounds_toArray, List.set_cons_zero, List.set_cons_succ, i64_w, i32_w]
        rfl
      refine pure_ (i := 4) (N := some 10) (v := ?_) (a' := ?_) #[true, true, true, true, true, false, false, false, false, false, false, false, false, false, false] rfl rfl (by kernel_rfl) (fun _ _ _ h => h) (Or.inl ⟨by rfl, ?_⟩) ?_ ?_
      rotate_left
      · intro w'
        go_simp
        with_reducible rfl
      rotate_left
      · simp only [Act.put, List.setIfInBounds_toArray, List.set_cons_zero, List.set_cons_succ, i64_w, i32_w]
        rfl
      refine pure_ (i := 5) (N := some 11) (v := ?_) (a' := ?_) #[true, true, true, true, true, true, false, false, false, false, false, false, false, false, false] rfl rfl (by kernel_rfl) (fun _ _ _ h => h) (Or.inl ⟨by rfl, ?_⟩) ?_ ?_
      rotate_left
      · intro w'
        go_simp
        with_reducible rfl
      rotate_left
      · simp only [Act.put, List.setIfInBounds_toArray, List.set_cons_zero, List.set_cons_succ, i64_w, i32_w]
        rfl
      refine take_ (i := 6) (N := some 12) (v := ?_) (a' := ?_) #[true, true, true, true, true, true, true, false, false, false, false, false, false, false, false] rfl rfl (by kernel_rfl) (fun _ _ _ h => h) (Or.inl ⟨by rfl, ?_⟩) hHeld ?_ ?_
      rotate_left
      · rintro w' ⟨s0, s1, s2⟩
        go_simp
        with_reducible rfl
      rotate_left
      · simp only [Act.put, List.setIfInBounds_toArray, List.set_cons_zero, List.set_cons_succ, i64_w, i32_w]
        rfl
      refine pure_ (i := 7) (N := some 13) (v := ?_) (a' := ?_) #[true, true, true, true, true, true, true, true, false, false, false, false, false, false, false] rfl rfl (by kernel_rfl) (fun _ _ _ h => h) (Or.inl ⟨by rfl, ?_⟩) ?_ ?_
      rotate_left
      · intro w'
        go_simp
        with_reducible rfl
      rotate_left
      · simp only [Act.put, List.setIfInBounds_toArray, List.set_cons_zero, List.set_cons_succ, i64_w, i32_w]
        rfl
      refine pure_ (i := 8) (N := some 14) (v := ?_) (a' := ?_) #[true, true, true, true, true, true, true, true, true, false, false, false, false, false, false] rfl rfl (by kernel_rfl) (fun _ _ _ h => h) (Or.inl ⟨by rfl, ?_⟩) ?_ ?_
      rotate_left
      · intro w'
        go_simp
        with_reducible rfl
      rotate_left
      · simp only [Act.put, List.setIfInBounds_toArray, List.set_cons_zero, List.set_cons_succ, i64_w, i32_w]
        rfl
      refine pure_ (i := 9) (N := some 15) (v := undef) (a' := ?_) #[true, true, true, true, true, true, true, true, true, true, false, false, false, false, false] rfl rfl (by kernel_rfl) (fun _ _ _ h => h) (Or.inr ⟨by rfl, rfl⟩) ?_ ?_
      rotate_left
      · simp only [Act.put, List.setIfInBounds_toArray, List.set_cons_zero, List.set_cons_succ, i64_w, i32_w]
        rfl
      refine pure_ (i := 10) (N := some 16) (v := undef) (a' := ?_) #[true, true, true, true, true, true, true, true, true, true, true, false, false, false, false] rfl rfl (by kernel_rfl) (fun _ _ _ h => h) (Or.inr ⟨by rfl, rfl⟩) ?_ ?_
      rotate_left
      · simp only [Act.put, List.setIfInBounds_toArray, List.set_cons_zero, List.set_cons_succ, i64_w, i32_w]
        rfl
      refine pure_ (i := 11) (N := some 17) (v := undef) (a' := ?_) #[true, true, true, true, true, true, true, true, true, true, true, true, false, false, false] rfl rfl (by kernel_rfl) (fun _ _ _ h => h) (Or.inr ⟨by rfl, rfl⟩) ?_ ?_
      rotate_left
      · simp only [Act.put, List.setIfInBounds_toArray, List.set_cons_zero, List.set_cons_succ, i64_w, i32_w]
        rfl
      refine pure_ (i := 12) (N := some 18) (v := undef) (a' := ?_) #[true, true, true, true, true, true, true, true, true, true, true, true, true, false, false] rfl rfl (by kernel_rfl) (fun _ _ _ h => h) (Or.inr ⟨by rfl, rfl⟩) ?_ ?_
      rotate_left
      · simp only [Act.put, List.setIfInBounds_toArray, List.set_cons_zero, List.set_cons_succ, i64_w, i32_w]
        rfl
      refine pure_ (i := 13) (N := some 19) (v := ?_) (a' := ?_) #[true, true, true, true, true, true, true, true, true, true, true, true, true, true, false] rfl rfl (by kernel_rfl) (fun _ _ _ h => h) (Or.inl ⟨by rfl, ?_⟩) ?_ ?_
      rotate_left
      · intro w'
        go_simp
        with_reducible rfl
      rotate_left
      · simp only [Act.put, List.setIfInBounds_toArray, List.set_cons_zero, List.set_cons_succ, i64_w, i32_w]
        rfl
      refine pure_ (i := 14) (N := some 20) (v := ?_) (a' := ?_) #[true, true, true, true, true, true, true, true, true, true, true, true, true, true, true] rfl rfl (by kernel_rfl) (fun _ _ _ h => h) (Or.inl ⟨by rfl, ?_⟩) ?_ ?_
      rotate_left
      · intro w'
        go_simp
        with_reducible rfl
      rotate_left
      · simp only [Act.put, List.setIfInBounds_toArray, List.set_cons_zero, List.set_cons_succ, i64_w, i32_w]
        rfl
      refine done_ (by kernel_rfl) ?_
      have HBB := Aside0.mk (below_step (below_drew1 (Below.refl w.heap.size w)) hb2)
      obtain ⟨v, hv, hv0⟩ := HI.out.ho
      have HV := Aside0.mk (blk_below hv HBB.out)
      have HV0 := Aside0.mk (Kd.R_below hv0 HBB.out)
      have HLL : Aside0 (((D.filter (wiP k sqs n false)).length + 1) * 8 ≤ 140737488355328) := ⟨by have := List.length_filter_le (wiP k sqs n false) D; have := HN.out; omega⟩
      have HFR : Aside0 (∀ k, w2.heap.size ≤ k → ¬ PB k) := ⟨fun k hk q => by have := HPB.out k q; have := HBB.out.size; omega⟩
      obtain ⟨Av, cv, rfl⟩ := Kd.R_slice hv0
      have cO : w2.cell? ⟨ob, 0, none⟩ = some (.slice Av (D.filter (wiP k sqs n false)).length cv) := (blk_cell HV.out 0).trans rfl
      clear hv hv0 hb2
      go_wp2_with ((with_reducible refine gate_builtin (b := .append) (xs := #[.tmp 21, .tmp 23]) rfl ?_); at_builtin; refine Kd.R_append (Kd.int .u64) (w0 := w) b0 rfl (.tmp 21) (.tmp 23) 78 56 (.int .u64 0) 8 rfl Tryz.underlying78 wi_info rfl (by decide) (by omega) _ (D.filter (wiP k sqs n false)) s [.int .u64 s] (fun k => ¬ PB k) (fun _ => False) rfl rfl ?aP (fun _ hk => hk.elim) ?aF ?aO ?aB ?aS ?aL ?_; (case aP => exact rfl); (case aB => exact HBB.out.mono HI.out.hb); (case aF => exact HFR.out); (case aO => exact HV0.out); (case aS => exact Nat.le_trans HI.out.hb (below_size HBB.out)); (case aL => exact HLL.out); intro v1 w5 ho hb5 hg5 hat; obtain ⟨hv5, hIW, hKP⟩ := HI.out.keep HPB.out HBB.out HP1.out HV.out HV0.out ho hg5; have HIW := Aside0.mk hIW; have HKP := Aside0.mk hKP; obtain ⟨A1, c1, e1⟩ := Kd.R_slice ho; have cO5 : w5.cell? ⟨ob, 0, none⟩ = some (.slice Av (D.filter (wiP k sqs n false)).length cv) := (blk_cell hv5 0).trans rfl; have fO5 := blk_frozen hv5 0; rw [List.length_append, List.length_singleton] at e1; subst e1; clear ho hb5 hg5 hat hIW hKP hv5)
      first | go_end0 | ((try simp only [Exit.inBlock, Exit.then]); refine bodyPost_ret (results_none rfl _ _ _) rfl ?_)
      exact ⟨rfl, HIW.out, HKP.out⟩
    | true =>
      by_cases h2 : z = 0
      · subst h2
        have HP1 : Aside0 (wiP k sqs n true s = true) := ⟨by rw [HP.out]; simp⟩
        clear HP
        go_enter Tryz.func91, Tryz.ntmps91
        go_wp2
        refine start_ (n := 15) (S := fun w' => w'.cell? ⟨lb, 0, none⟩ = some (.slice A sqs.length c) ∧ w'.cell? ⟨qb, 0, none⟩ = some (.int .i64 n) ∧ w'.cell? ⟨tb, 0, none⟩ = some (.bool true)) (ds := []) #[false, false, false, false, false, false, false, false, false, false, false, false, false, false, false] (by kernel_rfl) rfl rfl ⟨cl, cq, ct⟩ (fun hHeld => ?_)
        refine pure_ (i := 1) (N := some 7) (v := ?_) (a' := ?_) #[false, true, false, false, false, false, false, false, false, false, false, false, false, false, false] rfl rfl (by kernel_rfl) (fun _ _ _ h => h) (Or.inl ⟨by rfl, ?_⟩) ?_ ?_
        rotate_left
        · intro w'
          go_simp
          with_reducible rfl
        rotate_left
        · simp only [Act.put, List.setIfInBounds_toArray, List.set_cons_zero, List.set_cons_succ, i64_w, i32_w]
          rfl
        refine take_ (i := 0) (N := some 6) (v := ?_) (a' := ?_) #[true, true, false, false, false, false, false, false, false, false, false, false, false, false, false] rfl rfl (by kernel_rfl) (fun _ _ _ h => h) (Or.inl ⟨by rfl, ?_⟩) hHeld ?_ ?_
        rotate_left
        · rintro w' ⟨s0, s1, s2⟩
          go_simp
          with_reducible rfl
        rotate_left
        · simp only [Act.put, List.setIfInBounds_toArray, List.set_cons_zero, List.set_cons_succ, i64_w, i32_w]
          rfl
        refine take_ (i := 3) (N := some 9) (v := ?_) (a' := ?_) #[true, true, false, true, false, false, false, false, false, false, false, false, false, false, false] rfl rfl (by kernel_rfl) (fun _ _ _ h => h) (Or.inl ⟨by rfl, ?_⟩) hHeld ?_ ?_
        rotate_left
        · rintro w' ⟨s0, s1, s2⟩
          go_simp
          with_reducible rfl
        rotate_left
        · simp only [Act.put, List.setIfInBounds_toArray, List.set_cons_zero, List.set_cons_succ, i64_w, i32_w]
          rfl
        refine one_ (i := 2) (N := some 8) #[true, true, true, true, false, false, false, false, false, false, false, false, false, false, false] rfl rfl (by kernel_rfl) (by decide) (fun K hK => ?_)
        refine goes_ Tryz.func92 (by kernel_rfl) rfl #[.slice A sqs.length c, .int .u64 s] (by rfl) rfl rfl (by simp only [List.map_toArray, List.map_cons, List.map_nil]; rfl) ?_
        with_reducible refine (HCO.out _ (Kd.C_below HSQ.out.2.2 (below_drew1 (Below.refl _ _))) HSQ.out.2.1).mono ?_
        rintro e w2 ⟨rfl, hb2⟩
        refine ⟨_, rfl, ?_⟩
        refine hK.out _ _ ⟨pw_cell_below hb2 cl, pw_cell_below hb2 cq, pw_cell_below hb2 ct⟩ (fun hHeld => ?_)
        clear hK K
        refine norm_ (a' := ?_) ?_ ?_
        rotate_left
        · show Act.put _ (some 8) _ = _
          simp only [Act.put, List.setIfInBounds_toArray, List.set_cons_zero, List.set_cons_succ, i64_w, i32_w]
          rfl
        refine pure_ (i := 4) (N := some 10) (v := ?_) (a' := ?_) #[true, true, true, true, true, false, false, false, false, false, false, false, false, false, false] rfl rfl (by kernel_rfl) (fun _ _ _ h => h) (Or.inl ⟨by rfl, ?_⟩) ?_ ?_
        rotate_left
        · intro w'
          go_simp
          with_reducible rfl
        rotate_left
        · simp only [Act.put, List.setIfInBounds_toArray, List.set_cons_zero, List.set_cons_succ, i64_w, i32_w]
          rfl
        refine pure_ (i := 5) (N := some 11) (v := ?_) (a' := ?_) #[true, true, true, true, true, true, false, false, false, false, false, false, false, false, false] rfl rfl (by kernel_rfl) (fun _ _ _ h => h) (Or.inl ⟨by rfl, ?_⟩) ?_ ?_
        rotate_left
        · intro w'
          go_simp
          with_reducible rfl
        rotate_left
        · simp only [Act.put, List.setIfInBounds_toArray, List.set_cons_zero, List.set_cons_succ, i64_w, i32_w]
          rfl
        refine take_ (i := 6) (N := some 12) (v := ?_) (a' := ?_) #[true, true, true, true, true, true, true, false, false, false, false, false, false, false, false] rfl rfl (by kernel_rfl) (fun _ _ _ h => h) (Or.inl ⟨by rfl, ?_⟩) hHeld ?_ ?_
        rotate_left
        · rintro w' ⟨s0, s1, s2⟩
          go_simp
          with_reducible rfl
        rotate_left
        · simp only [Act.put, List.setIfInBounds_toArray, List.set_cons_zero, List.set_cons_succ, i64_w, i32_w]
          rfl
        refine pure_ (i := 7) (N := some 13) (v := ?_) (a' := ?_) #[true, true, true, true, true, true, true, true, false, false, false, false, false, false, false] rfl rfl (by kernel_rfl) (fun _ _ _ h => h) (Or.inl ⟨by rfl, ?_⟩) ?_ ?_
        rotate_left
        · intro w'
          go_simp
          with_reducible rfl
        rotate_left
        · simp only [Act.put, List.setIfInBounds_toArray, List.set_cons_zero, List.set_cons_succ, i64_w, i32_w]
          rfl
        refine pure_ (i := 8) (N := some 14) (v := ?_) (a' := ?_) #[true, true, true, true, true, true, true, true, true, false, false, false, false, false, false] rfl rfl (by kernel_rfl) (fun _ _ _ h => h) (Or.inl ⟨by rfl, ?_⟩) ?_ ?_
        rotate_left
        · intro w'
          go_simp
          with_reducible rfl
        rotate_left
        · simp only [Act.put, List.setIfInBounds_toArray, List.set_cons_zero, List.set_cons_succ, i64_w, i32_w]
          rfl
        refine pure_ (i := 10) (N := some 16) (v := ?_) (a' := ?_) #[true, true, true, true, true, true, true, true, true, false, true, false, false, false, false] rfl rfl (by kernel_rfl) (fun _ _ _ h => h) (Or.inl ⟨by rfl, ?_⟩) ?_ ?_
        rotate_left
        · intro w'
          go_simp
          with_reducible rfl
        rotate_left
        · simp only [Act.put, List.setIfInBounds_toArray, List.set_cons_zero, List.set_cons_succ, i64_w, i32_w]
          rfl
        refine take_ (i := 9) (N := some 15) (v := ?_) (a' := ?_) #[true, true, true, true, true, true, true, true, true, true, true, false, false, false, false] rfl rfl (by kernel_rfl) (fun _ _ _ h => h) (Or.inl ⟨by rfl, ?_⟩) hHeld ?_ ?_
        rotate_left
        · rintro w' ⟨s0, s1, s2⟩
          go_simp
          with_reducible rfl
        rotate_left
        · simp only [Act.put, List.setIfInBounds_toArray, List.set_cons_zero, List.set_cons_succ, i64_w, i32_w]
          rfl
        refine one_ (i := 11) (N := some 17) #[true, true, true, true, true, true, true, true, true, true, true, true, false, false, false] rfl rfl (by kernel_rfl) (by decide) (fun K hK => ?_)
        refine goes_ Tryz.func93 (by kernel_rfl) rfl #[.slice A sqs.length c, .int .u64 s] (by rfl) rfl rfl (by simp only [List.map_toArray, List.map_cons, List.map_nil]; rfl) ?_
        with_reducible refine (HNE.out _ (Kd.C_below (Kd.C_below HSQ.out.2.2 (below_drew1 (Below.refl _ _))) hb2) HSQ.out.2.1).mono ?_
        rintro e w3 ⟨rfl, hb3⟩
        refine ⟨_, rfl, ?_⟩
        refine hK.out _ _ ⟨pw_cell_below hb3 (pw_cell_below hb2 cl), pw_cell_below hb3 (pw_cell_below hb2 cq), pw_cell_below hb3 (pw_cell_below hb2 ct)⟩ (fun hHeld => ?_)
        clear hK K
        refine norm_ (a' := ?_) ?_ ?_
        rotate_left
        · show Act.put _ (some 17) _ = _
          simp only [Act.put, List.setIfInBounds_toArray, List.set_cons_zero, List.set_cons_succ, i64_w, i32_w]
          rfl
        refine pure_ (i := 12) (N := some 18) (v := ?_) (a' := ?_) #[true, true, true, true, true, true, true, true, true, true, true, true, true, false, false] rfl rfl (by kernel_rfl) (fun _ _ _ h => h) (Or.inl ⟨by rfl, ?_⟩) ?_ ?_
        rotate_left
        · intro w'
          go_simp
          with_reducible rfl
        rotate_left
        · simp only [Act.put, List.setIfInBounds_toArray, List.set_cons_zero, List.set_cons_succ, i64_w, i32_w]
          rfl
        refine pure_ (i := 13) (N := some 19) (v := ?_) (a' := ?_) #[true, true, true, true, true, true, true, true, true, true, true, true, true, true, false] rfl rfl (by kernel_rfl) (fun _ _ _ h => h) (Or.inl ⟨by rfl, ?_⟩) ?_ ?_
        rotate_left
        · intro w'
          go_simp
          with_reducible rfl
        rotate_left
        · simp only [Act.put, List.setIfInBounds_toArray, List.set_cons_zero, List.set_cons_succ, i64_w, i32_w]
          rfl
        refine pure_ (i := 14) (N := some 20) (v := ?_) (a' := ?_) #[true, true, true, true, true, true, true, true, true, true, true, true, true, true, true] rfl rfl (by kernel_rfl) (fun _ _ _ h => h) (Or.inl ⟨by rfl, ?_⟩) ?_ ?_
        rotate_left
        · intro w'
          go_simp
          with_reducible rfl
        rotate_left
        · simp only [Act.put, List.setIfInBounds_toArray, List.set_cons_zero, List.set_cons_succ, i64_w, i32_w]
          rfl
        refine done_ (by kernel_rfl) ?_
        have HBB := Aside0.mk (below_step (below_step (below_drew1 (Below.refl w.heap.size w)) hb2) hb3)
        obtain ⟨v, hv, hv0⟩ := HI.out.ho
        have HV := Aside0.mk (blk_below hv HBB.out)
        have HV0 := Aside0.mk (Kd.R_below hv0 HBB.out)
        have HLL : Aside0 (((D.filter (wiP k sqs n true)).length + 1) * 8 ≤ 140737488355328) := ⟨by have := List.length_filter_le (wiP k sqs n true) D; have := HN.out; omega⟩
        have HFR : Aside0 (∀ k, w3.heap.size ≤ k → ¬ PB k) := ⟨fun k hk q => by have := HPB.out k q; have := HBB.out.size; omega⟩
        obtain ⟨Av, cv, rfl⟩ := Kd.R_slice hv0
        have cO : w3.cell? ⟨ob, 0, none⟩ = some (.slice Av (D.filter (wiP k sqs n true)).length cv) := (blk_cell HV.out 0).trans rfl
        clear hv hv0 hb2 hb3
        go_wp2_with ((with_reducible refine gate_builtin (b := .append) (xs := #[.tmp 21, .tmp 23]) rfl ?_); at_builtin; refine Kd.R_append (Kd.int .u64) (w0 := w) b0 rfl (.tmp 21) (.tmp 23) 78 56 (.int .u64 0) 8 rfl Tryz.underlying78 wi_info rfl (by decide) (by omega) _ (D.filter (wiP k sqs n true)) s [.int .u64 s] (fun k => ¬ PB k) (fun _ => False) rfl rfl ?aP (fun _ hk => hk.elim) ?aF ?aO ?aB ?aS ?aL ?_; (case aP => exact rfl); (case aB => exact HBB.out.mono HI.out.hb); (case aF => exact HFR.out); (case aO => exact HV0.out); (case aS => exact Nat.le_trans HI.out.hb (below_size HBB.out)); (case aL => exact HLL.out); intro v1 w5 ho hb5 hg5 hat; obtain ⟨hv5, hIW, hKP⟩ := HI.out.keep HPB.out HBB.out HP1.out HV.out HV0.out ho hg5; have HIW := Aside0.mk hIW; have HKP := Aside0.mk hKP; obtain ⟨A1, c1, e1⟩ := Kd.R_slice ho; have cO5 : w5.cell? ⟨ob, 0, none⟩ = some (.slice Av (D.filter (wiP k sqs n true)).length cv) := (blk_cell hv5 0).trans rfl; have fO5 := blk_frozen hv5 0; rw [List.length_append, List.length_singleton] at e1; subst e1; clear ho hb5 hg5 hat hIW hKP hv5)
        first | go_end0 | ((try simp only [Exit.inBlock, Exit.then]); refine bodyPost_ret (results_none rfl _ _ _) rfl ?_)
        exact ⟨rfl, HIW.out, HKP.out⟩
      · have hz0 : (z == 0) = false := by simpa using h2
        have HP1 : Aside0 (wiP k sqs n true s = false) := ⟨by rw [HP.out]; simp [h2]⟩
        clear HP h2
        go_enter Tryz.func91, Tryz.ntmps91
        go_wp2
        refine start_ (n := 15) (S := fun w' => w'.cell? ⟨lb, 0, none⟩ = some (.slice A sqs.length c) ∧ w'.cell? ⟨qb, 0, none⟩ = some (.int .i64 n) ∧ w'.cell? ⟨tb, 0, none⟩ = some (.bool true)) (ds := []) #[false, false, false, false, false, false, false, false, false, false, false, false, false, false, false] (by kernel_rfl) rfl rfl ⟨cl, cq, ct⟩ (fun hHeld => ?_)
        refine pure_ (i := 1) (N := some 7) (v := ?_) (a' := ?_) #[false, true, false, false, false, false, false, false, false, false, false, false, false, false, false] rfl rfl (by kernel_rfl) (fun _ _ _ h => h) (Or.inl ⟨by rfl, ?_⟩) ?_ ?_
        rotate_left
        · intro w'
          go_simp
          with_reducible rfl
        rotate_left
        · simp only [Act.put, List.setIfInBounds_toArray, List.set_cons_zero, List.set_cons_succ, i64_w, i32_w]
          rfl
        refine take_ (i := 0) (N := some 6) (v := ?_) (a' := ?_) #[true, true, false, false, false, false, false, false, false, false, false, false, false, false, false] rfl rfl (by kernel_rfl) (fun _ _ _ h => h) (Or.inl ⟨by rfl, ?_⟩) hHeld ?_ ?_
        rotate_left
        · rintro w' ⟨s0, s1, s2⟩
          go_simp
          with_reducible rfl
        rotate_left
        · simp only [Act.put, List.setIfInBounds_toArray, List.set_cons_zero, List.set_cons_succ, i64_w, i32_w]
          rfl
        refine take_ (i := 3) (N := some 9) (v := ?_) (a' := ?_) #[true, true, false, true, false, false, false, false, false, false, false, false, false, false, false] rfl rfl (by kernel_rfl) (fun _ _ _ h => h) (Or.inl ⟨by rfl, ?_⟩) hHeld ?_ ?_
        rotate_left
        · rintro w' ⟨s0, s1, s2⟩
          go_simp
          with_reducible rfl
        rotate_left
        · simp only [Act.put, List.setIfInBounds_toArray, List.set_cons_zero, List.set_cons_succ, i64_w, i32_w]
          rfl
        refine one_ (i := 2) (N := some 8) #[true, true, true, true, false, false, false, false, false, false, false, false, false, false, false] rfl rfl (by kernel_rfl) (by decide) (fun K hK => ?_)
        refine goes_ Tryz.func92 (by kernel_rfl) rfl #[.slice A sqs.length c, .int .u64 s] (by rfl) rfl rfl (by simp only [List.map_toArray, List.map_cons, List.map_nil]; rfl) ?_
        with_reducible refine (HCO.out _ (Kd.C_below HSQ.out.2.2 (below_drew1 (Below.refl _ _))) HSQ.out.2.1).mono ?_
        rintro e w2 ⟨rfl, hb2⟩
        refine ⟨_, rfl, ?_⟩
        refine hK.out _ _ ⟨pw_cell_below hb2 cl, pw_cell_below hb2 cq, pw_cell_below hb2 ct⟩ (fun hHeld => ?_)
        clear hK K
        refine norm_ (a' := ?_) ?_ ?_
        rotate_left
        · show Act.put _ (some 8) _ = _
          simp only [Act.put, List.setIfInBounds_toArray, List.set_cons_zero, List.set_cons_succ, i64_w, i32_w]
          rfl
        refine pure_ (i := 4) (N := some 10) (v := ?_) (a' := ?_) #[true, true, true, true, true, false, false, false, false, false, false, false, false, false, false] rfl rfl (by kernel_rfl) (fun _ _ _ h => h) (Or.inl ⟨by rfl, ?_⟩) ?_ ?_
        rotate_left
        · intro w'
          go_simp
          with_reducible rfl
        rotate_left
        · simp only [Act.put, List.setIfInBounds_toArray, List.set_cons_zero, List.set_cons_succ, i64_w, i32_w]
          rfl
        refine pure_ (i := 5) (N := some 11) (v := ?_) (a' := ?_) #[true, true, true, true, true, true, false, false, false, false, false, false, false, false, false] rfl rfl (by kernel_rfl) (fun _ _ _ h => h) (Or.inl ⟨by rfl, ?_⟩) ?_ ?_
        rotate_left
        · intro w'
          go_simp
          with_reducible rfl
        rotate_left
        · simp only [Act.put, List.setIfInBounds_toArray, List.set_cons_zero, List.set_cons_succ, i64_w, i32_w]
          rfl
        refine take_ (i := 6) (N := some 12) (v := ?_) (a' := ?_) #[true, true, true, true, true, true, true, false, false, false, false, false, false, false, false] rfl rfl (by kernel_rfl) (fun _ _ _ h => h) (Or.inl ⟨by rfl, ?_⟩) hHeld ?_ ?_
        rotate_left
        · rintro w' ⟨s0, s1, s2⟩
          go_simp
          with_reducible rfl
        rotate_left
        · simp only [Act.put, List.setIfInBounds_toArray, List.set_cons_zero, List.set_cons_succ, i64_w, i32_w]
          rfl
        refine pure_ (i := 7) (N := some 13) (v := ?_) (a' := ?_) #[true, true, true, true, true, true, true, true, false, false, false, false, false, false, false] rfl rfl (by kernel_rfl) (fun _ _ _ h => h) (Or.inl ⟨by rfl, ?_⟩) ?_ ?_
        rotate_left
        · intro w'
          go_simp
          with_reducible rfl
        rotate_left
        · simp only [Act.put, List.setIfInBounds_toArray, List.set_cons_zero, List.set_cons_succ, i64_w, i32_w]
          rfl
        refine pure_ (i := 8) (N := some 14) (v := ?_) (a' := ?_) #[true, true, true, true, true, true, true, true, true, false, false, false, false, false, false] rfl rfl (by kernel_rfl) (fun _ _ _ h => h) (Or.inl ⟨by rfl, ?_⟩) ?_ ?_
        rotate_left
        · intro w'
          go_simp
          with_reducible rfl
        rotate_left
        · simp only [Act.put, List.setIfInBounds_toArray, List.set_cons_zero, List.set_cons_succ, i64_w, i32_w]
          rfl
        refine pure_ (i := 10) (N := some 16) (v := ?_) (a' := ?_) #[true, true, true, true, true, true, true, true, true, false, true, false, false, false, false] rfl rfl (by kernel_rfl) (fun _ _ _ h => h) (Or.inl ⟨by rfl, ?_⟩) ?_ ?_
        rotate_left
        · intro w'
          go_simp
          with_reducible rfl
        rotate_left
        · simp only [Act.put, List.setIfInBounds_toArray, List.set_cons_zero, List.set_cons_succ, i64_w, i32_w]
          rfl
        refine take_ (i := 9) (N := some 15) (v := ?_) (a' := ?_) #[true, true, true, true, true, true, true, true, true, true, true, false, false, false, false] rfl rfl (by kernel_rfl) (fun _ _ _ h => h) (Or.inl ⟨by rfl, ?_⟩) hHeld ?_ ?_
        rotate_left
        · rintro w' ⟨s0, s1, s2⟩
          go_simp
          with_reducible rfl
        rotate_left
        · simp only [Act.put, List.setIfInBounds_toArray, List.set_cons_zero, List.set_cons_succ, i64_w, i32_w]
          rfl
        refine one_ (i := 11) (N := some 17) #[true, true, true, true, true, true, true, true, true, true, true, true, false, false, false] rfl rfl (by kernel_rfl) (by decide) (fun K hK => ?_)
        refine goes_ Tryz.func93 (by kernel_rfl) rfl #[.slice A sqs.length c, .int .u64 s] (by rfl) rfl rfl (by simp only [List.map_toArray, List.map_cons, List.map_nil]; rfl) ?_
        with_reducible refine (HNE.out _ (Kd.C_below (Kd.C_below HSQ.out.2.2 (below_drew1 (Below.refl _ _))) hb2) HSQ.out.2.1).mono ?_
        rintro e w3 ⟨rfl, hb3⟩
        refine ⟨_, rfl, ?_⟩
        refine hK.out _ _ ⟨pw_cell_below hb3 (pw_cell_below hb2 cl), pw_cell_below hb3 (pw_cell_below hb2 cq), pw_cell_below hb3 (pw_cell_below hb2 ct)⟩ (fun hHeld => ?_)
        clear hK K
        refine norm_ (a' := ?_) ?_ ?_
        rotate_left
        · show Act.put _ (some 17) _ = _
          simp only [Act.put, List.setIfInBounds_toArray, List.set_cons_zero, List.set_cons_succ, i64_w, i32_w]
          rfl
        refine pure_ (i := 12) (N := some 18) (v := ?_) (a' := ?_) #[true, true, true, true, true, true, true, true, true, true, true, true, true, false, false] rfl rfl (by kernel_rfl) (fun _ _ _ h => h) (Or.inl ⟨by rfl, ?_⟩) ?_ ?_
        rotate_left
        · intro w'
          go_simp
          with_reducible rfl
        rotate_left
        · simp only [Act.put, List.setIfInBounds_toArray, List.set_cons_zero, List.set_cons_succ, i64_w, i32_w]
          rfl
        refine pure_ (i := 13) (N := some 19) (v := ?_) (a' := ?_) #[true, true, true, true, true, true, true, true, true, true, true, true, true, true, false] rfl rfl (by kernel_rfl) (fun _ _ _ h => h) (Or.inl ⟨by rfl, ?_⟩) ?_ ?_
        rotate_left
        · intro w'
          go_simp
          with_reducible rfl
        rotate_left
        · simp only [Act.put, List.setIfInBounds_toArray, List.set_cons_zero, List.set_cons_succ, i64_w, i32_w]
          rfl
        refine pure_ (i := 14) (N := some 20) (v := ?_) (a' := ?_) #[true, true, true, true, true, true, true, true, true, true, true, true, true, true, true] rfl rfl (by kernel_rfl) (fun _ _ _ h => h) (Or.inl ⟨by rfl, ?_⟩) ?_ ?_
        rotate_left
        · intro w'
          go_simp
          with_reducible rfl
        rotate_left
        · simp only [Act.put, List.setIfInBounds_toArray, List.set_cons_zero, List.set_cons_succ, i64_w, i32_w]
          rfl
        refine done_ (by kernel_rfl) ?_
        go_wp2
        first | go_end0 | ((try simp only [Exit.inBlock, Exit.then]); refine bodyPost_ret (results_none rfl _ _ _) rfl ?_)
        have h9 := HI.out.skip HPB.out (below_step (below_step (below_drew1 (Below.refl w.heap.size w)) hb2) hb3) HP1.out
        exact ⟨rfl, h9.1, h9.2⟩
  · have hnn : (n == squares) = false := by simpa using h1
    have HP1 : Aside0 (wiP k sqs squares tidy s = false) := ⟨by rw [HP.out, hnn]; rfl⟩
    clear HP h1
    go_enter Tryz.func91, Tryz.ntmps91
    go_wp2
    refine start_ (n := 15) (S := fun w' => w'.cell? ⟨lb, 0, none⟩ = some (.slice A sqs.length c) ∧ w'.cell? ⟨qb, 0, none⟩ = some (.int .i64 squares) ∧ w'.cell? ⟨tb, 0, none⟩ = some (.bool tidy)) (ds := []) #[false, false, false, false, false, false, false, false, false, false, false, false, false, false, false] (by kernel_rfl) rfl rfl ⟨cl, cq, ct⟩ (fun hHeld => ?_)
    refine pure_ (i := 1) (N := some 7) (v := ?_) (a' := ?_) #[false, true, false, false, false, false, false, false, false, false, false, false, false, false, false] rfl rfl (by kernel_rfl) (fun _ _ _ h => h) (Or.inl ⟨by rfl, ?_⟩) ?_ ?_
    rotate_left
    · intro w'
      go_simp
      with_reducible rfl
    rotate_left
    · simp only [Act.put, List.setIfInBounds_toArray, List.set_cons_zero, List.set_cons_succ, i64_w, i32_w]
      rfl
    refine take_ (i := 0) (N := some 6) (v := ?_) (a' := ?_) #[true, true, false, false, false, false, false, false, false, false, false, false, false, false, false] rfl rfl (by kernel_rfl) (fun _ _ _ h => h) (Or.inl ⟨by rfl, ?_⟩) hHeld ?_ ?_
    rotate_left
    · rintro w' ⟨s0, s1, s2⟩
      go_simp
      with_reducible rfl
    rotate_left
    · simp only [Act.put, List.setIfInBounds_toArray, List.set_cons_zero, List.set_cons_succ, i64_w, i32_w]
      rfl
    refine take_ (i := 3) (N := some 9) (v := ?_) (a' := ?_) #[true, true, false, true, false, false, false, false, false, false, false, false, false, false, false] rfl rfl (by kernel_rfl) (fun _ _ _ h => h) (Or.inl ⟨by rfl, ?_⟩) hHeld ?_ ?_
    rotate_left
    · rintro w' ⟨s0, s1, s2⟩
      go_simp
      with_reducible rfl
    rotate_left
    · simp only [Act.put, List.setIfInBounds_toArray, List.set_cons_zero, List.set_cons_succ, i64_w, i32_w]
      rfl
    refine one_ (i := 2) (N := some 8) #[true, true, true, true, false, false, false, false, false, false, false, false, false, false, false] rfl rfl (by kernel_rfl) (by decide) (fun K hK => ?_)
    refine goes_ Tryz.func92 (by kernel_rfl) rfl #[.slice A sqs.length c, .int .u64 s] (by rfl) rfl rfl (by simp only [List.map_toArray, List.map_cons, List.map_nil]; rfl) ?_
    with_reducible refine (HCO.out _ (Kd.C_below HSQ.out.2.2 (below_drew1 (Below.refl _ _))) HSQ.out.2.1).mono ?_
    rintro e w2 ⟨rfl, hb2⟩
    refine ⟨_, rfl, ?_⟩
    refine hK.out _ _ ⟨pw_cell_below hb2 cl, pw_cell_below hb2 cq, pw_cell_below hb2 ct⟩ (fun hHeld => ?_)
    clear hK K
    refine norm_ (a' := ?_) ?_ ?_
    rotate_left
    · show Act.put _ (some 8) _ = _
      simp only [Act.put, List.setIfInBounds_toArray, List.set_cons_zero, List.set_cons_succ, i64_w, i32_w]
      rfl
    refine pure_ (i := 4) (N := some 10) (v := ?_) (a' := ?_) #[true, true, true, true, true, false, false, false, false, false, false, false, false, false, false] rfl rfl (by kernel_rfl) (fun _ _ _ h => h) (Or.inl ⟨by rfl, ?_⟩) ?_ ?_
    rotate_left
    · intro w'
      go_simp
      with_reducible rfl
    rotate_left
    · simp only [Act.put, List.setIfInBounds_toArray, List.set_cons_zero, List.set_cons_succ, i64_w, i32_w]
      rfl
    refine pure_ (i := 5) (N := some 11) (v := ?_) (a' := ?_) #[true, true, true, true, true, true, false, false, false, false, false, false, false, false, false] rfl rfl (by kernel_rfl) (fun _ _ _ h => h) (Or.inl ⟨by rfl, ?_⟩) ?_ ?_
    rotate_left
    · intro w'
      go_simp
      with_reducible rfl
    rotate_left
    · simp only [Act.put, List.setIfInBounds_toArray, List.set_cons_zero, List.set_cons_succ, i64_w, i32_w]
      rfl
    refine pure_ (i := 6) (N := some 12) (v := undef) (a' := ?_) #[true, true, true, true, true, true, true, false, false, false, false, false, false, false, false] rfl rfl (by kernel_rfl) (fun _ _ _ h => h) (Or.inr ⟨by rfl, rfl⟩) ?_ ?_
    rotate_left
    · simp only [Act.put, List.setIfInBounds_toArray, List.set_cons_zero, List.set_cons_succ, i64_w, i32_w]
      rfl
    refine pure_ (i := 7) (N := some 13) (v := undef) (a' := ?_) #[true, true, true, true, true, true, true, true, false, false, false, false, false, false, false] rfl rfl (by kernel_rfl) (fun _ _ _ h => h) (Or.inr ⟨by rfl, rfl⟩) ?_ ?_
    rotate_left
    · simp only [Act.put, List.setIfInBounds_toArray, List.set_cons_zero, List.set_cons_succ, i64_w, i32_w]
      rfl
    refine pure_ (i := 8) (N := some 14) (v := undef) (a' := ?_) #[true, true, true, true, true, true, true, true, true, false, false, false, false, false, false] rfl rfl (by kernel_rfl) (fun _ _ _ h => h) (Or.inr ⟨by rfl, rfl⟩) ?_ ?_
    rotate_left
    · simp only [Act.put, List.setIfInBounds_toArray, List.set_cons_zero, List.set_cons_succ, i64_w, i32_w]
      rfl
    refine pure_ (i := 9) (N := some 15) (v := undef) (a' := ?_) #[true, true, true, true, true, true, true, true, true, true, false, false, false, false, false] rfl rfl (by kernel_rfl) (fun _ _ _ h => h) (Or.inr ⟨by rfl, rfl⟩) ?_ ?_
    rotate_left
    · simp only [Act.put, List.setIfInBounds_toArray, List.set_cons_zero, List.set_cons_succ, i64_w, i32_w]
      rfl
    refine pure_ (i := 10) (N := some 16) (v := undef) (a' := ?_) #[true, true, true, true, true, true, true, true, true, true, true, false, false, false, false] rfl rfl (by kernel_rfl) (fun _ _ _ h => h) (Or.inr ⟨by rfl, rfl⟩) ?_ ?_
    rotate_left
    · simp only [Act.put, List.setIfInBounds_toArray, List.set_cons_zero, List.set_cons_succ, i64_w, i32_w]
      rfl
    refine pure_ (i := 11) (N := some 17) (v := undef) (a' := ?_) #[true, true, true, true, true, true, true, true, true, true, true, true, false, false, false] rfl rfl (by kernel_rfl) (fun _ _ _ h => h) (Or.inr ⟨by rfl, rfl⟩) ?_ ?_
    rotate_left
    · simp only [Act.put, List.setIfInBounds_toArray, List.set_cons_zero, List.set_cons_succ, i64_w, i32_w]
      rfl
    refine pure_ (i := 12) (N := some 18) (v := undef) (a' := ?_) #[true, true, true, true, true, true, true, true, true, true, true, true, true, false, false] rfl rfl (by kernel_rfl) (fun _ _ _ h => h) (Or.inr ⟨by rfl, rfl⟩) ?_ ?_
    rotate_left
    · simp only [Act.put, List.setIfInBounds_toArray, List.set_cons_zero, List.set_cons_succ, i64_w, i32_w]
      rfl
    refine pure_ (i := 13) (N := some 19) (v := undef) (a' := ?_) #[true, true, true, true, true, true, true, true, true, true, true, true, true, true, false] rfl rfl (by kernel_rfl) (fun _ _ _ h => h) (Or.inr ⟨by rfl, rfl⟩) ?_ ?_
    rotate_left
    · simp only [Act.put, List.setIfInBounds_toArray, List.set_cons_zero, List.set_cons_succ, i64_w, i32_w]
      rfl
    refine pure_ (i := 14) (N := some 20) (v := ?_) (a' := ?_) #[true, true, true, true, true, true, true, true, true, true, true, true, true, true, true] rfl rfl (by kernel_rfl) (fun _ _ _ h => h) (Or.inl ⟨by rfl, ?_⟩) ?_ ?_
    rotate_left
    · intro w'
      go_simp
      with_reducible rfl
    rotate_left
    · simp only [Act.put, List.setIfInBounds_toArray, List.set_cons_zero, List.set_cons_succ, i64_w, i32_w]
      rfl
    refine done_ (by kernel_rfl) ?_
    go_wp2
    first | go_end0 | ((try simp only [Exit.inBlock, Exit.then]); refine bodyPost_ret (results_none rfl _ _ _) rfl ?_)
    have h9 := HI.out.skip HPB.out (below_step (below_drew1 (Below.refl w.heap.size w)) hb2) HP1.out
    exact ⟨rfl, h9.1, h9.2⟩
end
section
theorem with1_cb {b0 lb qb tb ob : Nat} {A : Option Addr} {c : Nat} {sqs : List S127} {squares : Int} {tidy : Bool} {k : Nat} (hk : sqs.length < k) (hb : sqs.length ≤ 1000) : Cb Tryz.prog 91 #[.pointer (some ⟨lb, 0, none⟩), .pointer (some ⟨qb, 0, none⟩), .pointer (some ⟨tb, 0, none⟩), .pointer (some ⟨ob, 0, none⟩)] (IW b0 lb qb tb ob A c sqs squares tidy (wiP k sqs squares tidy)) 1000000 where
  enters := enters59
  more := fun hPB h hb => h.below hPB hb
  less := fun h hp => h.less hp
  drew := fun h => h.drew
  call := fun s hPB h hN _ _ => with1_call hk hb s hPB h hN
theorem wi_ready {w w3 w4 w5 w6 w7 : World} {Q T L O : Nat} {A A9 : Option Addr} {c c9 : Nat} {sqs : List S127} {squares : Int} {tidy : Bool} {p : Int → Bool} (hQ : w3.heap[Q]? = some (.cells #[.int .i64 squares] 3 (0, 0))) (hT : w3.heap[T]? = some (.cells #[.bool tidy] 4 (0, 0))) (h3 : Below w.heap.size w w3) (h4 : Below w3.heap.size w3 w4)
    (hs : Kd.R k127 127 w4 w3.heap.size (fun _ => True) (.slice A sqs.length c) sqs) (h5 : Below w4.heap.size w4 w5) (hr : Kd.R (Kd.int .u64) 56 w5 w4.heap.size (fun _ => True) (.slice A9 0 c9) []) (hL0 : L = w5.heap.size) (h6 : Below w5.heap.size w5 w6) (hL : w6.heap[L]? = some (.cells #[.slice none 0 0] 99 (0, 0))) (hO0 : O = w6.heap.size) (h7 : Below w6.heap.size w6 w7) (hO : w7.heap[O]? = some (.cells #[.slice none 0 0] 78 (0, 0))) :
    Below w.heap.size w ((w7.setCell ⟨L, 0, none⟩ (.slice A sqs.length c)).setCell ⟨O, 0, none⟩ (.slice A9 0 c9)) ∧ IW w.heap.size L Q T O A c sqs squares tidy p (fun k => k < w.heap.size) [] ((w7.setCell ⟨L, 0, none⟩ (.slice A sqs.length c)).setCell ⟨O, 0, none⟩ (.slice A9 0 c9)) := by
  have s1 := h3.size
  have s2 := h4.size
  have s3 := h5.size
  have s4 := h6.size
  have s5 := h7.size
  have q3 := blk_lt hQ
  have t3 := blk_lt hT
  have l6 := blk_lt hL
  have sz : ((w7.setCell ⟨L, 0, none⟩ (.slice A sqs.length c)).setCell ⟨O, 0, none⟩ (.slice A9 0 c9)).heap.size = w7.heap.size := by simp [World.setCell]
  have h37 := below_step (below_step (below_step h4 h5) h6) h7
  have hL7 := blk_below hL h7
  have hL8 : (w7.setCell ⟨L, 0, none⟩ (.slice A sqs.length c)).heap[L]? = some (.cells #[.slice A sqs.length c] 99 (0, 0)) := blk_put (cs := #[.slice none 0 0]) hL7 0 _ rfl
  have hO8 : (w7.setCell ⟨L, 0, none⟩ (.slice A sqs.length c)).heap[O]? = some (.cells #[.slice none 0 0] 78 (0, 0)) := blk_far hO (p := ⟨L, 0, none⟩) (by show O ≠ L; omega) _
  have far : ∀ {b : Nat} {cs : Array Value} {t : TypeId}, w7.heap[b]? = some (.cells cs t (0, 0)) → b ≠ L → b ≠ O → ((w7.setCell ⟨L, 0, none⟩ (.slice A sqs.length c)).setCell ⟨O, 0, none⟩ (.slice A9 0 c9)).heap[b]? = some (.cells cs t (0, 0)) := fun h a b => blk_far (blk_far h (p := ⟨L, 0, none⟩) a _) (p := ⟨O, 0, none⟩) b _
  refine ⟨below_set (below_set (below_step h3 h37) (by omega)) (by omega), blk_far hL8 (p := ⟨O, 0, none⟩) (by show L ≠ O; omega) _, far (blk_below hQ h37) (by omega) (by omega), far (blk_below hT h37) (by omega) (by omega), ?_, ⟨_, blk_put (cs := #[.slice none 0 0]) hO8 0 _ rfl, ?_⟩, by rw [sz]; omega, by omega⟩
  · refine Kd.R_lower (base := w3.heap.size) ?_ (by omega)
    exact Kd.R_set (Kd.R_set (Kd.R_below (Kd.R_below (Kd.R_below hs h5) h6) h7) hL7 (sq_ne (by decide)) 0 _) hO8 (sq_ne (by decide)) 0 _
  · refine Kd.R_mono (Kd.R_bound (Kd.R_lower (base := w4.heap.size) (ok := fun _ => True) ?_ (by omega))) (fun k hk q => by have := hk.2.1; omega)
    exact Kd.R_set (Kd.R_set (Kd.R_below (Kd.R_below hr h6) h7) hL7 (su_ne (by decide)) 0 _) hO8 (su_ne (by decide)) 0 _
set_option maxHeartbeats 8000000 in
set_option maxRecDepth 100000 in
theorem with_main {a0 a1 : Int} {A2 : Option Addr} {c2 : Nat} {l2 : List Int} {A3 : Option Addr} {c3 : Nat} {l3 : List Int} {k n : Nat} {q squares sv al : Int} {mv tidy : Bool} {sqs : List S127} {lg l : List Int} {w : World} (hq : q = n)
    (hT : TzTab w) (hr2 : Kd.C (Kd.int .i64) w A2 l2.length l2) (hc2 : l2.length ≤ c2) (hr3 : Kd.C (Kd.int .i64) w A3 l3.length l3) (hc3 : l3.length ≤ c3) (hsq : impl_grid_squares.f k a0 a1 = some sqs) (hs : impl_Figure_set.f k a0 a1 l2 l3 = some sv) (hlg : impl_set_listed.f k sv = some lg) (hlg1 : lg.length ≤ 1000000) (hlg0 : ∀ b ∈ lg, 0 ≤ b)
    (hal : mv = true → impl_grid_all.f a0 a1 = some al) (hl : mv = true → impl_set_listed.f k (Go.bits .andNot .u64 al sv) = some l) (hn : n ≤ 1000000) (hl1 : l.length ≤ 1000000) (hl0 : ∀ b ∈ l, 0 ≤ b) (hk : sqs.length < k) (hb : sqs.length ≤ 1000) (hN : (chB fI n 0 lg).length * inL mv n l ≤ 1000000) :
    Calls Tryz.prog 63 #[.agg #[.int .i64 a0, .int .i64 a1, .slice A2 l2.length c2, .slice A3 l3.length c3, .int .i64 q, .bool mv], .int .i64 squares, .bool tidy] w fun e w' => ∃ v0_ : Value, e = .returned (v0_) ∧ Kd.R (Kd.int .u64) 56 w' w.heap.size (fun _ => True) v0_ (((chB fI n 0 lg).flatMap (inM mv n sv l)).filter (wiP k sqs squares tidy)) ∧ Below w.heap.size w w' := by
  subst hq
  have HGR := Aside0.mk (fun W (hb : Below w.heap.size w W) => impl_Figure_grid.calls a0 a1 A2 c2 l2 A3 c3 l3 a0 a1 W (Kd.C_below hr2 hb) hc2 (Kd.C_below hr3 hb) hc3 rfl)
  have HSQ := Aside0.mk (fun W => impl_grid_squares.calls k a0 a1 sqs W hsq)
  have HEA := Aside0.mk (fun L Q T O A c w' (hB : Below w.heap.size w w') h1 h2 => each_calls (q := (n : Int)) (with1_cb (b0 := w.heap.size) (lb := L) (qb := Q) (tb := T) (ob := O) (A := A) (c := c) (squares := squares) (tidy := tidy) hk hb) (D0 := []) (PB := fun k => k < w.heap.size) (w0 := w) (w := w') rfl hB (fun _ h => h) hT hr2 hc2 hr3 hc3 hs hlg hlg1 hlg0 hal hl hn hl1 hl0 h1 h2 (by simpa using hN))
  clear hT hr2 hr3 hsq hs hlg hlg1 hlg0 hal hl hl1 hl0 hk hb hN
  have hu1 := Tryz.underlying80
  have hu2 := Tryz.underlying78
  have hu3 := Tryz.underlying30
  have hu4 := Tryz.underlying99
  go_enter Tryz.func63, Tryz.ntmps63
  go_wp2_with (first
    | ((with_reducible refine gate_dst (N := 3) rfl ?_); refine zbx 3 #[.int .i64 a0, .int .i64 a1, .slice A2 l2.length c2, .slice A3 l3.length c3, .int .i64 n, .bool mv] 80 ?_; intro B hB w1 hboxB hb1; have HBW := Aside0.mk hboxB; have HB1 := Aside0.mk hb1; clear hB hboxB hb1)
    | ((with_reducible refine gate_dst (N := 4) rfl ?_); refine zbx 4 #[.int .i64 squares] 3 ?_; intro Q hQ w2 hboxQ hb2; have HBQ := Aside0.mk hboxQ; have HB2 := Aside0.mk (below_step HB1.out hb2); have HBW2 := Aside0.mk (blk_below HBW.out hb2); clear hQ hboxQ hb2)
    | ((with_reducible refine gate_dst (N := 5) rfl ?_); refine zbx 5 #[.bool tidy] 4 ?_; intro T hT w3 hboxT hb3; have HBT := Aside0.mk hboxT; have HB3 := Aside0.mk (below_step HB2.out hb3); have HBW3 := Aside0.mk (blk_below HBW2.out hb3); have HBQ3 := Aside0.mk (blk_below HBQ.out hb3); have k0 : w3.cell? ⟨B, 0, none⟩ = some (.int .i64 a0) := (blk_cell HBW3.out 0).trans rfl; have k1 : w3.cell? ⟨B, 1, none⟩ = some (.int .i64 a1) := (blk_cell HBW3.out 1).trans rfl; have k2 : w3.cell? ⟨B, 2, none⟩ = some (.slice A2 l2.length c2) := (blk_cell HBW3.out 2).trans rfl; have k3 : w3.cell? ⟨B, 3, none⟩ = some (.slice A3 l3.length c3) := (blk_cell HBW3.out 3).trans rfl; clear hT hboxT hb3))
  refine (HGR.out _ HB3.out).mono ?_
  rintro e w3b ⟨rfl, hb3b⟩
  have HB3b := Aside0.mk (below_step HB3.out hb3b)
  have HBW3b := Aside0.mk (blk_below HBW3.out hb3b)
  have HBQ3b := Aside0.mk (blk_below HBQ3.out hb3b)
  have HBT3b := Aside0.mk (blk_below HBT.out hb3b)
  clear hb3b k0 k1 k2 k3
  go_wp2_with fail
  refine (HSQ.out _).mono ?_
  rintro e w4 ⟨v, rfl, hs4, hb4⟩
  obtain ⟨A, c, rfl⟩ := Kd.R_slice hs4
  have HS4 := Aside0.mk hs4
  have HB4 := Aside0.mk hb4
  clear hs4 hb4
  go_wp2_with (first
    | ((with_reducible refine gate_dst (N := 13) rfl ?_); refine Kd.R_lit (Kd.int .u64) _ 56 ?hg (N := 13) ?hd (xs := ([] : List Int)) (inner := []) (ok := fun _ => True) (okp := fun _ => True) ?hr ?hp (fun _ hk => hk) trivial (Below.refl _ _) (Nat.le_refl _) (by simp) ?_; (case hd => rfl); (case hg => rfl); (case hr => first | (go_simp; done) | (go_simp; rfl)); (case hp => exact Reps.none _ _); intro v9 w5 ho5 hb5 hg5 hnew5; obtain ⟨A9, c9, rfl⟩ := Kd.R_slice ho5; have HO5 := Aside0.mk ho5; have HB5 := Aside0.mk hb5; have HBW5 := Aside0.mk (blk_below (blk_below HBW3b.out HB4.out) hb5); clear ho5 hb5 hg5 hnew5)
    | ((with_reducible refine gate_dst (N := 7) rfl ?_); refine zbx 7 #[.slice none 0 0] 99 ?_; intro L hL w6 hboxL hb6; have HBL := Aside0.mk hboxL; have HB6 := Aside0.mk hb6; have HL0 := Aside0.mk hL; have hBL : B ≠ L := Nat.ne_of_lt (Nat.lt_of_lt_of_le (blk_lt HBW5.out) (Nat.le_of_eq hL.symm)); have HBW6 := Aside0.mk (blk_below HBW5.out hb6); clear hL hboxL hb6)
    | ((with_reducible refine gate_dst (N := 8) rfl ?_); refine zbx 8 #[.slice none 0 0] 78 ?_; intro O hO w7 hboxO hb7; have HBO := Aside0.mk hboxO; have HB7 := Aside0.mk hb7; have HO0 := Aside0.mk hO; have hLO : O ≠ L := Nat.ne_of_gt (Nat.lt_of_lt_of_le (blk_lt HBL.out) (Nat.le_of_eq HO0.out.symm)); have kL : w7.cell? ⟨L, 0, none⟩ = some (.slice none 0 0) := (blk_cell (blk_below HBL.out hb7) 0).trans rfl; have fL := blk_frozen (blk_below HBL.out hb7) 0; have kO : w7.cell? ⟨O, 0, none⟩ = some (.slice none 0 0) := (blk_cell hboxO 0).trans rfl; have fO := blk_frozen hboxO 0; have hBO : B ≠ O := Nat.ne_of_lt (Nat.lt_of_lt_of_le (blk_lt HBW6.out) (Nat.le_of_eq hO.symm)); have HBW7 := Aside0.mk (blk_below HBW6.out hb7); have k0 : w7.cell? ⟨B, 0, none⟩ = some (.int .i64 a0) := (blk_cell HBW7.out 0).trans rfl; have k1 : w7.cell? ⟨B, 1, none⟩ = some (.int .i64 a1) := (blk_cell HBW7.out 1).trans rfl; have k2 : w7.cell? ⟨B, 2, none⟩ = some (.slice A2 l2.length c2) := (blk_cell HBW7.out 2).trans rfl; have k3 : w7.cell? ⟨B, 3, none⟩ = some (.slice A3 l3.length c3) := (blk_cell HBW7.out 3).trans rfl; have k4 : w7.cell? ⟨B, 4, none⟩ = some (.int .i64 n) := (blk_cell HBW7.out 4).trans rfl; have k5 : w7.cell? ⟨B, 5, none⟩ = some (.bool mv) := (blk_cell HBW7.out 5).trans rfl; clear hO hboxO hb7))
  obtain ⟨hbw, hiw⟩ := wi_ready (p := wiP k sqs squares tidy) HBQ3b.out HBT3b.out HB3b.out HB4.out HS4.out HB5.out HO5.out HL0.out HB6.out HBL.out HO0.out HB7.out HBO.out
  refine (HEA.out L Q T O A c _ hbw (fun k hk => Nat.lt_of_lt_of_le hk hbw.size) hiw).mono ?_
  rintro e w8 ⟨rfl, hI8, hK8⟩
  have HB8 := Aside0.mk (hK8.below hbw (fun k hk => hk))
  obtain ⟨v8, ho8, hr8⟩ := hI8.ho
  have HR8 := Aside0.mk (Kd.R_mono (ok' := fun _ => True) hr8 (fun _ _ => trivial))
  have kO8 : w8.cell? ⟨O, 0, none⟩ = some v8 := (blk_cell ho8 0).trans rfl
  clear hbw hiw hI8 hK8 ho8 hr8 kL fL kO fO k0 k1 k2 k3 k4 k5
  obtain ⟨A8, c8, rfl⟩ := Kd.R_slice HR8.out
  go_wp2_with fail
  go_ret
  exact ⟨_, rfl, HR8.out, HB8.out⟩
end
theorem impl_way_with.calls (k : Nat) (a0_0 : Int) (a0_1 : Int) (A0_2 : Option Addr) (c0_2 : Nat) (l0_2 : List Int) (A0_3 : Option Addr) (c0_3 : Nat) (l0_3 : List Int) (a0_4 : Int) (a0_5 : Bool) (a1 : Int) (a2 : Bool) (r : List Int) (w : World) (hT : TzTab w) (hr0_2 : Kd.C (Kd.int .i64) w A0_2 l0_2.length l0_2) (hc0_2 : l0_2.length ≤ c0_2) (hr0_3 : Kd.C (Kd.int .i64) w A0_3 l0_3.length l0_3) (hc0_3 : l0_3.length ≤ c0_3) (h : impl_way_with.f k a0_0 a0_1 l0_2 l0_3 a0_4 a0_5 a1 a2 = some r) :
  Calls Tryz.prog 63 #[.agg #[.int .i64 a0_0, .int .i64 a0_1, .slice A0_2 l0_2.length c0_2, .slice A0_3 l0_3.length c0_3, .int .i64 a0_4, .bool a0_5], .int .i64 a1, .bool a2] w fun e w' => ∃ v0_ : Value, e = .returned (v0_) ∧ Kd.R (Kd.int .u64) 56 w' w.heap.size (fun _ => True) v0_ r ∧ Below w.heap.size w w' := by
  unfold impl_way_with.f at h
  obtain ⟨sqs, hsq, h⟩ := Option.bind_eq_some_iff.mp h
  obtain ⟨sv, hs, h⟩ := Option.bind_eq_some_iff.mp h
  obtain ⟨lg, hlg, h⟩ := Option.bind_eq_some_iff.mp h
  obtain ⟨l, hl, h⟩ := Option.bind_eq_some_iff.mp h
  split at h
  · next hh =>
    obtain ⟨h0, hn, hk, hb, hg1, hl1, hg0, hl0, hN⟩ := hh
    obtain rfl := Option.some.inj h
    obtain ⟨al, hal, hlf⟩ : ∃ al, (a0_5 = true → impl_grid_all.f a0_0 a0_1 = some al) ∧ (a0_5 = true → impl_set_listed.f k (Go.bits .andNot .u64 al sv) = some l) := by
      unfold wiF at hl
      cases a0_5 with
      | false => exact ⟨0, fun e => (by cases e), fun e => (by cases e)⟩
      | true =>
        rw [if_pos rfl] at hl
        obtain ⟨al, h1, h2⟩ := Option.bind_eq_some_iff.mp hl
        exact ⟨al, fun _ => h1, fun _ => h2⟩
    exact with_main (q := a0_4) (n := a0_4.toNat) (by omega) hT hr0_2 hc0_2 hr0_3 hc0_3 hsq hs hlg hg1 hg0 hal hlf (by omega) hl1 hl0 hk hb hN
  · cases h

end Go.Proofs.YtopifdmaaibcnaaGreatDoor.H
