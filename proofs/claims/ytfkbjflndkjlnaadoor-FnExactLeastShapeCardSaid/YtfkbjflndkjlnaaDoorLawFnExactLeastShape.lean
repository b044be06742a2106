/- For every text the law FnExactLeastShape returns true: the program's LeastShape tells what the reference's tells. Conditions: none beyond the row's own; the tables that it reads are tied to the program's text. -/
import Derived.Test.YtfkbjflndkjlnaaDoorRows
import Derived.Test.YtfkbjflndkjlnaaDoorLd
import Derived.Test.YtfkbjflndkjlnaaDoorLc2
import Derived.Test.YtfkbjflndkjlnaaDoorLc3
import Derived.Test.YtfkbjflndkjlnaaDoorCards
import Derived.Test.YtfkbjflndkjlnaaDoorTie
import Derived.WalkKit
import Derived.ProofKit
import Derived.OpenShut
import Derived.ShutString
import Derived.ChangeOld
import Derived.Below
import Derived.SizedLaws
import Derived.Lib.SmallJoins
import Derived.Deep.LoopGhost
import Derived.Deep.Draws
import Derived.Deep.RegionHeld3
import Derived.Lib.LaidIn
import Derived.Lib.LaidTab
import Derived.Deep.DeepHandedRow
import Derived.SevenTiedAt
namespace Go.Proofs.YtfkbjflndkjlnaaDoor.L
open Go.ChangeShapes Go.WideShapes Go.ChangeAt Go.RowKit Go.Joins
open Go.ChangeMaps (open_string shut_string)
open Go.Proofs.YtfkbjflndkjlnaaDoorW.PrintWords Go.Proofs.YtfkbjflndkjlnaaDoorW.PrintLast Go.Proofs.YtfkbjflndkjlnaaDoorW.PrintMore
attribute [local go_sem] max2_int min2_int max_two min_two max_three min_three max_four min_four
set_option linter.unusedVariables false
set_option linter.unusedSimpArgs false
set_option linter.unnecessarySimpa false
/-! What comes together from a cell: two lists that hold it, grown in other orders, are as long. -/
theorem nodup_len {α : Type} : ∀ (L M : List α), L.Nodup → (∀ x ∈ L, x ∈ M) → L.length ≤ M.length
  | [], _, _, _ => Nat.zero_le _
  | x :: L, M, hn, hs => by
    obtain ⟨s, t, rfl⟩ := List.append_of_mem (hs x List.mem_cons_self)
    have hx := (List.nodup_cons.1 hn).1
    have := nodup_len L (s ++ t) (List.nodup_cons.1 hn).2 (fun y hy => by
      have h := hs y (List.mem_cons_of_mem _ hy)
      rw [List.mem_append, List.mem_cons] at h
      rw [List.mem_append]
      rcases h with h | rfl | h
      · exact .inl h
      · exact absurd hy hx
      · exact .inr h)
    simp only [List.length_append, List.length_cons] at this ⊢
    omega
/-- a round: what is next to p comes behind L, each once -/
structure Rnd {α : Type} (adj : α → α → Prop) (cells L : List α) (p : α) (L' : List α) : Prop where
  grow : ∃ new, L' = L ++ new ∧ ∀ y ∈ new, y ∈ cells ∧ adj p y
  nodup : L'.Nodup
  all : ∀ y ∈ cells, adj p y → y ∈ L'
structure Clo {α : Type} (adj : α → α → Prop) (cells : List α) (a : α) (k : Nat) (L : List α) : Prop where
  nodup : L.Nodup
  sub : ∀ x ∈ L, x ∈ cells
  start : a ∈ L
  reach : ∀ S : α → Prop, S a → (∀ x y, S x → x ∈ cells → y ∈ cells → adj x y → S y) → ∀ x ∈ L, S x
  closed : ∀ i x, i < k → L[i]? = some x → ∀ y ∈ cells, adj x y → y ∈ L
section
variable {α : Type} {adj : α → α → Prop} {cells L L' : List α} {a p : α} {k : Nat}
theorem Clo.one (h : a ∈ cells) : Clo adj cells a 0 [a] :=
  ⟨by simp, fun x hx => by rw [List.mem_singleton] at hx; exact hx ▸ h, List.mem_singleton.2 rfl, fun S ha _ x hx => by rw [List.mem_singleton] at hx; exact hx ▸ ha, fun i x hi => absurd hi (Nat.not_lt_zero _)⟩
theorem Clo.step (h : Clo adj cells a k L) (hk : L[k]? = some p) (hr : Rnd adj cells L p L') : Clo adj cells a (k + 1) L' := by
  obtain ⟨new, rfl, hnew⟩ := hr.grow
  have hp : p ∈ L := List.mem_of_getElem? hk
  have hkl : k < L.length := (List.getElem?_eq_some_iff.1 hk).1
  refine ⟨hr.nodup, fun x hx => ?_, List.mem_append_left _ h.start, fun S ha hs x hx => ?_, fun i x hi hx y hy hxy => ?_⟩
  · rcases List.mem_append.1 hx with hx | hx
    · exact h.sub x hx
    · exact (hnew x hx).1
  · rcases List.mem_append.1 hx with hx | hx
    · exact h.reach S ha hs x hx
    · exact hs p x (h.reach S ha hs p hp) (h.sub p hp) (hnew x hx).1 (hnew x hx).2
  · by_cases e : i = k
    · subst e
      rw [List.getElem?_append_left hkl, hk] at hx
      obtain rfl := Option.some.inj hx
      exact hr.all y hy hxy
    · rw [List.getElem?_append_left (by omega)] at hx
      exact List.mem_append_left _ (h.closed i x (by omega) hx y hy hxy)
theorem Clo.len (h : Clo adj cells a k L) : L.length ≤ cells.length := nodup_len _ _ h.nodup h.sub
theorem Clo.full (h : Clo adj cells a L.length L) : ∀ x ∈ L, ∀ y ∈ cells, adj x y → y ∈ L := by
  intro x hx y hy hxy
  obtain ⟨i, hi⟩ := List.getElem?_of_mem hx
  exact h.closed i x (List.getElem?_eq_some_iff.1 hi).1 hi y hy hxy
/-- as many as there are: all are there -/
theorem Clo.whole (h : Clo adj cells a k L) (hl : L.length = cells.length) : ∀ x ∈ cells, x ∈ L := by
  intro x hx
  rcases Classical.em (x ∈ L) with h1 | h1
  · exact h1
  · have := nodup_len (x :: L) cells (List.nodup_cons.2 ⟨h1, h.nodup⟩) (fun y hy => by
      rcases List.mem_cons.1 hy with rfl | hy
      · exact hx
      · exact h.sub y hy)
    simp only [List.length_cons] at this
    omega
/-- the places on the way are met -/
theorem Clo.between (h : Clo adj cells a L.length L) (f : α → Int) (hf : ∀ x y, adj x y → f y ≤ f x + 1 ∧ f x ≤ f y + 1) : ∀ x ∈ L, ∀ c, (f a ≤ c ∧ c ≤ f x) ∨ (f x ≤ c ∧ c ≤ f a) → ∃ q ∈ L, f q = c := by
  intro x hx
  refine (h.reach (fun x => x ∈ L ∧ ∀ c, (f a ≤ c ∧ c ≤ f x) ∨ (f x ≤ c ∧ c ≤ f a) → ∃ q ∈ L, f q = c) ⟨h.start, fun c hc => ⟨a, h.start, by omega⟩⟩ ?_ x hx).2
  rintro x y ⟨hx, hs⟩ _ hy hxy
  have hyL := h.full x hx y hy hxy
  refine ⟨hyL, fun c hc => ?_⟩
  have := hf x y hxy
  by_cases e : f y = c
  · exact ⟨y, hyL, e⟩
  · exact hs c (by omega)
end
theorem span_len {α : Type} (f : α → Int) (n : Nat) (L : List α) (h : ∀ c : Nat, c < n → ∃ q ∈ L, f q = (c : Int)) : n ≤ L.length := by
  have := nodup_len ((List.range n).map (fun c : Nat => (c : Int))) (L.map f) (by
    rw [List.nodup_iff_pairwise_ne, List.pairwise_map]
    exact List.nodup_range.imp (fun h e => h (by omega))) (fun x hx => by
      obtain ⟨c, hc, rfl⟩ := List.mem_map.1 hx
      obtain ⟨q, hq, e⟩ := h c (List.mem_range.1 hc)
      exact List.mem_map.2 ⟨q, hq, e⟩)
  simpa using this
/-- two lists, each grown from the first cell, are as long -/
theorem clo_len {α β : Type} {adj : α → α → Prop} {adj2 : β → β → Prop} {cells L : List α} {L2 : List β} {a : α} (e : α → β) (hi : ∀ x ∈ cells, ∀ y ∈ cells, e x = e y → x = y) (ha : ∀ x ∈ cells, ∀ y ∈ cells, (adj x y ↔ adj2 (e x) (e y)))
    (h : Clo adj cells a L.length L) (h2 : Clo adj2 (cells.map e) (e a) L2.length L2) : L.length = L2.length := by
  have hac : a ∈ cells := h.sub a h.start
  apply Nat.le_antisymm
  · have := nodup_len (L.map e) L2 (by
      rw [List.nodup_iff_pairwise_ne, List.pairwise_map]
      refine (List.nodup_iff_pairwise_ne.1 h.nodup).imp_of_mem (fun {x y} hx hy hne he => hne (hi x (h.sub x hx) y (h.sub y hy) he))) (fun z hz => by
        obtain ⟨x, hx, rfl⟩ := List.mem_map.1 hz
        exact h.reach (fun x => e x ∈ L2) h2.start (fun x y hs hx hy hxy => h2.full _ hs _ (List.mem_map.2 ⟨y, hy, rfl⟩) ((ha x hx y hy).1 hxy)) x hx)
    simpa using this
  · have := nodup_len L2 (L.map e) h2.nodup (fun z hz => by
      refine h2.reach (fun z => z ∈ L.map e) (List.mem_map.2 ⟨a, h.start, rfl⟩) (fun z z' hs _ hz' hzz => ?_) z hz
      obtain ⟨x, hx, rfl⟩ := List.mem_map.1 hs
      obtain ⟨y, hy, rfl⟩ := List.mem_map.1 hz'
      exact List.mem_map.2 ⟨y, h.full x hx y hy ((ha x (h.sub x hx) y hy).2 hzz), rfl⟩)
    simpa using this

/-! Texts as lists of bytes. -/
def B8 (l : List UInt8) : ByteArray := ⟨l.toArray⟩
theorem B8_app (a b : List UInt8) : B8 a ++ B8 b = B8 (a ++ b) := by
  apply ByteArray.ext
  simp [B8, ByteArray.data_append]
theorem B8_size (l : List UInt8) : (B8 l).size = l.length := by simp [B8, ByteArray.size]
theorem B8_toList (l : List UInt8) : (B8 l).toList = l := by rw [Lib.toList_data]; rfl
def sg (b : Bool) (c : UInt8) : UInt8 := if b = true then c else 46
def tx (p : Nat → Bool) (c : UInt8) : Nat → Nat → List UInt8
  | _, 0 => []
  | i, d + 1 => sg (p i) c :: tx p c (i + 1) d
theorem tx_len (p : Nat → Bool) (c : UInt8) : ∀ d i, (tx p c i d).length = d
  | 0, _ => rfl
  | d + 1, i => by simp [tx, tx_len p c d]

/-! The reference's cutting of a text, its cells. -/
theorem w64 (x : Int) (h1 : -9223372036854775808 ≤ x) (h2 : x ≤ 9223372036854775807) : wrap64 x = x := by unfold wrap64; omega
theorem wa1 {a : Nat} (h : a ≤ 100000000) : wrap64 ((a : Int) + 1) = ((a + 1 : Nat) : Int) := by rw [w64 _ (by omega) (by omega)]; omega
theorem spl_pre : ∀ (pre t : List UInt8), (∀ b ∈ pre, b ≠ 47) → spl (pre ++ 47 :: t) = pre :: spl t
  | [], t, _ => spl_eq t
  | b :: pre, t, h => by
    rw [List.cons_append, spl_cons (h b List.mem_cons_self) (spl_pre pre t (fun c hc => h c (List.mem_cons_of_mem _ hc)))]
theorem spl_only : ∀ (pre : List UInt8), (∀ b ∈ pre, b ≠ 47) → spl pre = [pre]
  | [], _ => rfl
  | b :: pre, h => by
    rw [spl_cons (h b List.mem_cons_self) (spl_only pre (fun c hc => h c (List.mem_cons_of_mem _ hc)))]
theorem bt_get (s : ByteArray) (i : Nat) (h : i < s.size) : ∃ b, s.data.toList[i]? = some b ∧ bt s (i : Int) = (b.toNat : Int) := by
  have hl : i < s.data.toList.length := by rw [← Lib.size_eq]; exact h
  refine ⟨s.data.toList[i], List.getElem?_eq_getElem hl, ?_⟩
  unfold bt
  rw [dif_pos (by simpa using h)]
  simp [ByteArray.getElem_eq_getElem_data]
theorem split_l0 (s : ByteArray) (hs : s.size ≤ 1000) : ∀ (d i f : Nat) (acc : List ByteArray) (k : Nat), i + d = s.size → f ≤ i → d < k → acc.length ≤ i → (∀ b ∈ (s.data.toList.take i).drop f, b ≠ 47) → ∃ ps, spec_l1Split.l0 k s 47 acc (f : Int) (i : Int) = some (acc ++ ps) ∧ ps.map (·.data.toList) = spl (s.data.toList.drop f)
  | 0, i, f, acc, k, hi, hf, hk, ha, hp => by
    obtain ⟨k, rfl⟩ : ∃ m, k = m + 1 := ⟨k - 1, by omega⟩
    simp only [spec_l1Split.l0]
    rw [if_neg (by omega), if_pos (by omega), if_pos (by omega), if_pos (by omega), Int.toNat_natCast]
    refine ⟨_, rfl, ?_⟩
    have e : s.data.toList.take i = s.data.toList := List.take_of_length_le (by rw [← Lib.size_eq]; omega)
    rw [e] at hp
    rw [List.map_cons, List.map_nil, Lib.extract_to_end, spl_only _ hp]
  | d + 1, i, f, acc, k, hi, hf, hk, ha, hp => by
    obtain ⟨k, rfl⟩ : ∃ m, k = m + 1 := ⟨k - 1, by omega⟩
    obtain ⟨b, hb, hbt⟩ := bt_get s i (by omega)
    have hl : i < s.data.toList.length := by rw [← Lib.size_eq]; omega
    have hb' : s.data.toList[i] = b := by rw [List.getElem?_eq_getElem hl] at hb; exact Option.some.inj hb
    have et : s.data.toList.take (i + 1) = s.data.toList.take i ++ [b] := by rw [List.take_succ_eq_append_getElem hl, hb']
    have hlt : (s.data.toList.take i).length = i := by rw [List.length_take]; omega
    simp only [spec_l1Split.l0]
    rw [if_pos (by omega), if_pos (by omega), hbt, wa1 (by omega)]
    by_cases e : b = 47
    · subst e
      rw [if_pos (show (((47 : UInt8).toNat : Nat) : Int) = 47 from rfl), if_pos (by omega), if_pos (by omega), if_pos (by omega), if_pos (by omega), Int.toNat_natCast, Int.toNat_natCast]
      obtain ⟨ps, h1, h2⟩ := split_l0 s hs d (i + 1) (i + 1) (acc ++ [s.extract f i]) k (by omega) (Nat.le_refl _) (by omega) (by rw [List.length_append, List.length_singleton]; omega) (by
        rw [List.drop_eq_nil_of_le (by rw [et, List.length_append, hlt]; exact Nat.le_refl _)]
        intro b hb; cases hb)
      refine ⟨s.extract f i :: ps, by rw [h1, List.append_assoc]; rfl, ?_⟩
      rw [List.map_cons, h2]
      have e3 : s.data.toList.drop f = (s.data.toList.take i).drop f ++ 47 :: s.data.toList.drop (i + 1) := by
        conv => lhs; rw [← List.take_append_drop i s.data.toList]
        rw [List.drop_append_of_le_length (by omega), List.drop_eq_getElem_cons hl, hb']
      rw [e3, spl_pre _ _ hp]
      congr 1
      rw [Lib.extract_data, List.drop_take]
    · rw [if_neg (by intro h; exact e (UInt8.toNat_inj.1 (show b.toNat = 47 by omega)))]
      exact split_l0 s hs d (i + 1) f acc k (by omega) (by omega) (by omega) (by omega) (fun c hc => by
        rw [et, List.drop_append_of_le_length (by omega)] at hc
        rcases List.mem_append.1 hc with hc | hc
        · exact hp c hc
        · rw [List.mem_singleton] at hc; exact hc ▸ e)
theorem ba_ext : ∀ (ps qs : List ByteArray), ps.map (·.data.toList) = qs.map (·.data.toList) → ps = qs
  | [], [], _ => rfl
  | [], _ :: _, h => by simp at h
  | _ :: _, [], h => by simp at h
  | p :: ps, q :: qs, h => by
    rw [List.map_cons, List.map_cons, List.cons.injEq] at h
    rw [ba_ext ps qs h.2]
    congr 1
    rw [← Lib.mk_data p, ← Lib.mk_data q, h.1]
theorem split_f (s : ByteArray) (hs : s.size ≤ 1000) (k : Nat) (hk : 1010 ≤ k) : spec_piRows.f k s = some (shPs s) := by
  obtain ⟨ps, h1, h2⟩ := split_l0 s hs s.size 0 0 [] k (by omega) (Nat.le_refl _) (by omega) (Nat.le_refl _) (by simp)
  unfold spec_piRows.f spec_l1Split.f
  rw [show (0 : Int) = ((0 : Nat) : Int) from rfl, h1, Option.bind_some, List.nil_append]
  congr 1
  refine ba_ext _ _ ?_
  rw [h2, List.drop_zero]
  unfold shPs
  rw [split_rows]
theorem spec_l1In_f (a lo hi : Int) : spec_l1In.f a lo hi = some (decide (lo ≤ a) && decide (a ≤ hi)) := by
  unfold spec_l1In.f
  by_cases h : lo ≤ a
  · rw [if_pos h]; simp [h]
  · rw [if_neg (by omega)]; simp [h]
theorem has_Z (k : Nat) (l : List Int) (x : Int) (hl : l.length ≤ 100000) : ∀ (d i : Nat), i + d = l.length → d < k → (∀ j, j < i → l[j]? ≠ some x) → ∃ b, spec_l1Has.l0 k x l (l.length : Int) (i : Int) = some b ∧ (b = true ↔ x ∈ l)
  | 0, i, hi, hk, hn => by
    obtain ⟨k, rfl⟩ : ∃ m, k = m + 1 := ⟨k - 1, by omega⟩
    refine ⟨false, ?_, ⟨fun h => (by cases h), fun h => ?_⟩⟩
    · simp only [spec_l1Has.l0]
      rw [if_neg (by omega)]
    · obtain ⟨j, hj⟩ := List.getElem?_of_mem h
      exact absurd hj (hn j (by have := (List.getElem?_eq_some_iff.1 hj).1; omega))
  | d + 1, i, hi, hk, hn => by
    obtain ⟨k, rfl⟩ : ∃ m, k = m + 1 := ⟨k - 1, by omega⟩
    have hlt : i < l.length := by omega
    have er : rd l (i : Int) = l[i] := by simp [rd, hlt]
    simp only [spec_l1Has.l0]
    rw [if_pos (by omega), if_pos (by omega), if_pos (by omega), er]
    by_cases e : l[i] = x
    · rw [if_pos e]
      exact ⟨true, rfl, ⟨fun _ => e ▸ List.getElem_mem hlt, fun _ => rfl⟩⟩
    · rw [if_neg e, wa1 (by omega)]
      exact has_Z k l x hl d (i + 1) (by omega) (by omega) (fun j hj => by
        by_cases ej : j = i
        · subst ej
          rw [List.getElem?_eq_getElem hlt]
          intro h
          exact e (Option.some.inj h)
        · exact hn j (by omega))
theorem has_f (k : Nat) (l : List Int) (x : Int) (hk : l.length < k) (hl : l.length ≤ 100000) : ∃ b, spec_l1Has.f k l x = some b ∧ (b = true ↔ x ∈ l) := by
  unfold spec_l1Has.f
  exact has_Z k l x hl l.length 0 (by omega) hk (fun j hj => absurd hj (Nat.not_lt_zero _))

/-! The reference's cells. -/
/-- a cell's number -/
def enc (w : Nat) (p : S45) : Int := p.f1 * (w : Int) + p.f0
def goodRow (w : Nat) (r : ByteArray) : Bool := r.size == w && r.data.toList.all fun b => b == 111 || b == 46
section
variable {s : ByteArray} {ps : List ByteArray} {w : Nat} (hw : w ≤ 1000) (hp : ps.length ≤ 1000) (ht : (shCells 0 (ps.map (·.data.toList))).length ≤ 100000)
include hw hp ht
theorem is_l1 (row : ByteArray) (i : Nat) (hi : ps[i]? = some row) (hrow : row.size = w) (K : Nat) (R : Option Bool) : ∀ (d x k : Nat), x + d = w → K + d + 1 ≤ k →
    ((∀ b ∈ row.data.toList, b = 111 ∨ b = 46) → ∀ K', K ≤ K' → spec_piIs.l0 K' s w ((shCx ps row i w).map (enc w)) ps (ps.length : Int) ((i + 1 : Nat) : Int) = R) → ((∃ j b, x ≤ j ∧ row.data.toList[j]? = some b ∧ ¬ (b = 111 ∨ b = 46)) → R = some false) → (∀ j b, j < x → row.data.toList[j]? = some b → b = 111 ∨ b = 46) →
    spec_piIs.l1 k s w ((shCx ps row i x).map (enc w)) (i : Int) row (x : Int) ps (ps.length : Int) (i : Int) = R
  | 0, x, k, hx, hk, hgood, hbad, hpre => by
    obtain ⟨k, rfl⟩ : ∃ m, k = m + 1 := ⟨k - 1, by omega⟩
    obtain rfl : x = w := by omega
    have hi' : i < ps.length := (List.getElem?_eq_some_iff.1 hi).1
    simp only [spec_piIs.l1]
    rw [if_neg (by omega), wa1 (by omega)]
    exact hgood (fun b hb => by
      obtain ⟨j, hj⟩ := List.getElem?_of_mem hb
      have := (List.getElem?_eq_some_iff.1 hj).1
      rw [← Lib.size_eq] at this
      exact hpre j b (by omega) hj) k (by omega)
  | d + 1, x, k, hx, hk, hgood, hbad, hpre => by
    obtain ⟨k, rfl⟩ : ∃ m, k = m + 1 := ⟨k - 1, by omega⟩
    obtain ⟨b, hb, hbt⟩ := bt_get row x (by omega)
    have hstep := shCx_step ps row i x (by omega)
    have hl := Nat.le_trans (shCx_len ps row i x hi) ht
    have hi' : i < ps.length := (List.getElem?_eq_some_iff.1 hi).1
    rw [hbt] at hstep
    have hnext : ∀ (hg : b = 111 ∨ b = 46), (∀ j c, j < x + 1 → row.data.toList[j]? = some c → c = 111 ∨ c = 46) := by
      intro hg j c hj hc
      by_cases ej : j = x
      · subst ej
        rw [hb] at hc
        exact Option.some.inj hc ▸ hg
      · exact hpre j c (by omega) hc
    have hbad' : (∃ j c, x + 1 ≤ j ∧ row.data.toList[j]? = some c ∧ ¬ (c = 111 ∨ c = 46)) → R = some false := fun ⟨j, c, h1, h2, h3⟩ => hbad ⟨j, c, by omega, h2, h3⟩
    simp only [spec_piIs.l1]
    rw [if_pos (by omega), if_pos (by omega), if_pos (by omega), hbt]
    by_cases e : b = 111
    · subst e
      rw [if_pos (show (((111 : UInt8).toNat : Nat) : Int) = 111 from rfl)] at hstep ⊢
      rw [if_pos (by rw [List.length_map]; omega), wa1 (by omega)]
      have e2 : wrap64 ((wrap64 ((i : Int) * (w : Int))) + (x : Int)) = enc w ⟨(x : Int), (i : Int)⟩ := by
        have hm : i * w ≤ 1000 * 1000 := Nat.mul_le_mul (by omega) hw
        unfold enc
        have e3 : (i : Int) * (w : Int) = ((i * w : Nat) : Int) := by push_cast; rfl
        rw [e3, w64 ((i * w : Nat) : Int) (by omega) (by omega), w64 _ (by omega) (by omega)]
      rw [e2]
      have e4 : (shCx ps row i x).map (enc w) ++ [enc w ⟨(x : Int), (i : Int)⟩] = (shCx ps row i (x + 1)).map (enc w) := by rw [hstep]; simp
      rw [e4]
      exact is_l1 row i hi hrow K R d (x + 1) k (by omega) (by omega) hgood hbad' (hnext (.inl rfl))
    · have hne : ¬ ((b.toNat : Nat) : Int) = 111 := by intro h; exact e (UInt8.toNat_inj.1 (show b.toNat = 111 by omega))
      rw [if_neg hne] at hstep ⊢
      rw [List.append_nil] at hstep
      by_cases e5 : b = 46
      · subst e5
        rw [if_pos (show (((46 : UInt8).toNat : Nat) : Int) = 46 from rfl), wa1 (by omega), ← hstep]
        exact is_l1 row i hi hrow K R d (x + 1) k (by omega) (by omega) hgood hbad' (hnext (.inr rfl))
      · have hne2 : ¬ ((b.toNat : Nat) : Int) = 46 := by intro h; exact e5 (UInt8.toNat_inj.1 (show b.toNat = 46 by omega))
        rw [if_neg hne2]
        exact (hbad ⟨x, b, Nat.le_refl _, hb, fun h => h.elim e e5⟩).symm
/-- what the reference does behind the rows -/
def piFin (k : Nat) (s : ByteArray) (w : Nat) (cs : List Int) : Option Bool := (spec_l1In.f (cs.length : Int) 1 12).bind fun t131 => (if t131 = true then ((spec_piText.f k w cs).bind fun t132 => (spec_piIs.j3 k w cs (t132.toList != s.toList))) else (spec_piIs.j3 k w cs true))
theorem is_l0 (K : Nat) (v : Bool) (hfin : (∀ r ∈ ps, goodRow w r = true) → ∀ K', K ≤ K' → piFin K' s w ((shC ps ps.length).map (enc w)) = some v) : ∀ (d i k : Nat), i + d = ps.length → K + (w + 2) * d + 1 ≤ k → (∀ j r, j < i → ps[j]? = some r → goodRow w r = true) →
    spec_piIs.l0 k s w ((shC ps i).map (enc w)) ps (ps.length : Int) (i : Int) = some (if ps.all (goodRow w) = true then v else false)
  | 0, i, k, hi, hk, hpre => by
    obtain ⟨k, rfl⟩ : ∃ m, k = m + 1 := ⟨k - 1, by omega⟩
    obtain rfl : i = ps.length := by omega
    have hall : ∀ r ∈ ps, goodRow w r = true := fun r hr => by
      obtain ⟨j, hj⟩ := List.getElem?_of_mem hr
      exact hpre j r (List.getElem?_eq_some_iff.1 hj).1 hj
    simp only [spec_piIs.l0]
    rw [if_neg (by omega), if_pos (List.all_eq_true.2 hall)]
    exact hfin hall k (by omega)
  | d + 1, i, k, hi, hk, hpre => by
    obtain ⟨k, rfl⟩ : ∃ m, k = m + 1 := ⟨k - 1, by omega⟩
    obtain ⟨row, hrow⟩ : ∃ q, ps[i]? = some q := ⟨_, List.getElem?_eq_getElem (by omega)⟩
    have er : rdOf ByteArray.empty ps (i : Int) = row := by unfold rdOf; rw [Int.toNat_natCast, List.getD_eq_getElem?_getD, hrow]; rfl
    have hkm : K + (w + 2) * d + w + 2 ≤ k := by rw [Nat.mul_succ] at hk; omega
    simp only [spec_piIs.l0]
    rw [if_pos (by omega), if_pos (by omega), if_pos (by omega), er]
    by_cases hs : row.size = w
    · rw [if_pos (by omega)]
      have h0 : (shC ps i).map (enc w) = (shCx ps row i 0).map (enc w) := by rw [shCx_zero]
      rw [h0, show (0 : Int) = ((0 : Nat) : Int) from rfl]
      refine is_l1 hw hp ht row i hrow hs (K + (w + 2) * d + 1) _ w 0 k (by omega) (by omega) (fun hb K' hK => ?_) (fun ⟨j, b, _, hj, hb⟩ => ?_) (fun j b hj => absurd hj (Nat.not_lt_zero _))
      · have e := shCx_full ps row i hrow
        rw [hs] at e
        rw [e]
        refine is_l0 K v hfin d (i + 1) K' (by omega) hK (fun j r hj hr => ?_)
        by_cases ej : j = i
        · subst ej
          rw [hrow] at hr
          obtain rfl := Option.some.inj hr
          unfold goodRow
          rw [Bool.and_eq_true, beq_iff_eq, List.all_eq_true]
          exact ⟨hs, fun b hb' => by rcases hb b hb' with rfl | rfl <;> rfl⟩
        · exact hpre j r (by omega) hr
      · rw [if_neg]
        intro ha
        have := List.all_eq_true.1 ha row (List.mem_of_getElem? hrow)
        unfold goodRow at this
        rw [Bool.and_eq_true, List.all_eq_true] at this
        have h2 := this.2 b (List.mem_of_getElem? hj)
        rw [Bool.or_eq_true, beq_iff_eq, beq_iff_eq] at h2
        exact hb h2
    · rw [if_neg (by omega), if_neg]
      intro ha
      have := List.all_eq_true.1 ha row (List.mem_of_getElem? hrow)
      unfold goodRow at this
      rw [Bool.and_eq_true, beq_iff_eq] at this
      exact hs this.1
end

/-! What comes together from the first cell, as the program looks for it. -/
def Nx (p q : S45) : Prop := q = ⟨p.f0, p.f1 - 1⟩ ∨ q = ⟨p.f0 + 1, p.f1⟩ ∨ q = ⟨p.f0, p.f1 + 1⟩ ∨ q = ⟨p.f0 - 1, p.f1⟩
def Near (p : S45) : Prop := 0 ≤ p.f0 ∧ p.f0 ≤ 2000000 ∧ 0 ≤ p.f1 ∧ p.f1 ≤ 2000000
/-- where a step leads -/
def nxt (p : S45) (d : Int) : S45 := if d = 110 then ⟨p.f0, p.f1 - 1⟩ else if d = 101 then ⟨p.f0 + 1, p.f1⟩ else if d = 115 then ⟨p.f0, p.f1 + 1⟩ else ⟨p.f0 - 1, p.f1⟩
theorem next_f {p : S45} (h : Near p) (d : Int) : impl_Corner_next.f p.f0 p.f1 d = some ((nxt p d).f0, (nxt p d).f1) := by
  obtain ⟨h1, h2, h3, h4⟩ := h
  unfold impl_Corner_next.f nxt
  rw [w64 (p.f1 - 1) (by omega) (by omega), w64 (p.f0 + 1) (by omega) (by omega), w64 (p.f1 + 1) (by omega) (by omega), w64 (p.f0 - 1) (by omega) (by omega)]
  split
  · rfl
  · split
    · rfl
    · split <;> rfl
theorem find_l0 (L : List S45) (x y : Int) (hL : L.length ≤ 2000) : ∀ (d i k : Nat), i + d = L.length → d < k → (∀ j, j < i → L[j]? ≠ some ⟨x, y⟩) → ∃ r : Int, impl_Corner_61.l0 k L (L.length : Int) (i : Int) x y = some r ∧ (0 ≤ r ↔ (⟨x, y⟩ : S45) ∈ L)
  | 0, i, k, hi, hk, hn => by
    obtain ⟨k, rfl⟩ : ∃ m, k = m + 1 := ⟨k - 1, by omega⟩
    refine ⟨-1, ?_, ⟨fun h => absurd h (by decide), fun h => ?_⟩⟩
    · simp only [impl_Corner_61.l0]
      rw [if_neg (by omega)]
    · obtain ⟨j, hj⟩ := List.getElem?_of_mem h
      have := (List.getElem?_eq_some_iff.1 hj).1
      exact absurd hj (hn j (by omega))
  | d + 1, i, k, hi, hk, hn => by
    obtain ⟨k, rfl⟩ : ∃ m, k = m + 1 := ⟨k - 1, by omega⟩
    obtain ⟨q, hq⟩ : ∃ q, L[i]? = some q := ⟨_, List.getElem?_eq_getElem (by omega)⟩
    simp only [impl_Corner_61.l0]
    rw [if_pos (by omega), if_pos (by omega), if_pos (by omega), rdT hq]
    by_cases e : x = q.f0 ∧ y = q.f1
    · obtain ⟨rfl, rfl⟩ := e
      refine ⟨(i : Int), by rw [if_pos (by simp)], ⟨fun _ => List.mem_of_getElem? hq, fun _ => by omega⟩⟩
    · have e2 : (x == q.f0 && (y == q.f1)) = false := by
        rw [Bool.and_eq_false_iff, beq_eq_false_iff_ne, beq_eq_false_iff_ne]
        omega
      rw [e2, if_neg (by decide), show wrap64 ((i : Int) + 1) = ((i + 1 : Nat) : Int) by rw [w64 _ (by omega) (by omega)]; omega]
      exact find_l0 L x y hL d (i + 1) k (by omega) (by omega) (fun j hj => by
        by_cases ej : j = i
        · subst ej
          rw [hq]
          intro h
          rw [Option.some.injEq] at h
          subst h
          exact e ⟨rfl, rfl⟩
        · exact hn j (by omega))
theorem has_S (k : Nat) (L : List S45) (q : S45) (hL : L.length ≤ 2000) (hk : 2100 ≤ k) : ∃ b, impl_Corner_27.f k L q.f0 q.f1 = some b ∧ (b = true ↔ q ∈ L) := by
  obtain ⟨r, hr, hi⟩ := find_l0 L q.f0 q.f1 hL L.length 0 k (by omega) (by omega) (fun j hj => absurd hj (Nat.not_lt_zero _))
  refine ⟨decide (r ≥ 0), ?_, by rw [decide_eq_true_eq]; exact hi⟩
  unfold impl_Corner_27.f impl_Corner_61.f
  rw [show (0 : Int) = ((0 : Nat) : Int) from rfl, hr, Option.bind_some]
theorem shSteps_f {k : Nat} (hk : 2100 ≤ k) {cells : List S45} (hc : cells.length ≤ 1000) {p : S45} (hp : Near p) : ∀ (ds : List Int) (L : List S45), L.Nodup → (∀ x ∈ L, x ∈ cells) → ∃ new, shSteps k cells p ds L = some (L ++ new) ∧ (L ++ new).Nodup ∧ (∀ y ∈ new, y ∈ cells ∧ ∃ d ∈ ds, nxt p d = y) ∧ ∀ d ∈ ds, nxt p d ∈ cells → nxt p d ∈ L ++ new
  | [], L, h, _ => ⟨[], by simp [shSteps], by simpa using h, by simp, by simp⟩
  | d :: ds, L, h, hs => by
    have hlen := nodup_len L cells h hs
    obtain ⟨b, hb, hbi⟩ := has_S k cells (nxt p d) (by omega) hk
    obtain ⟨c, hc', hci⟩ := has_S k L (nxt p d) (by omega) hk
    have skip : shTry k cells L ((nxt p d).f0, (nxt p d).f1) = some L → (nxt p d ∈ cells → nxt p d ∈ L) → ∃ new, shSteps k cells p (d :: ds) L = some (L ++ new) ∧ (L ++ new).Nodup ∧ (∀ y ∈ new, y ∈ cells ∧ ∃ e ∈ d :: ds, nxt p e = y) ∧ ∀ e ∈ d :: ds, nxt p e ∈ cells → nxt p e ∈ L ++ new := by
      intro ht hm
      obtain ⟨new, e1, e2, e3, e4⟩ := shSteps_f hk hc hp ds L h hs
      refine ⟨new, by simp only [shSteps]; rw [next_f hp, Option.bind_some, ht, Option.bind_some]; exact e1, e2, fun y hy => ⟨(e3 y hy).1, ?_⟩, fun e he hec => ?_⟩
      · obtain ⟨e, he, e'⟩ := (e3 y hy).2
        exact ⟨e, List.mem_cons_of_mem _ he, e'⟩
      · rcases List.mem_cons.1 he with rfl | he
        · exact List.mem_append_left _ (hm hec)
        · exact e4 e he hec
    cases b with
    | false =>
      refine skip (by unfold shTry; rw [hb, Option.bind_some, if_neg (by decide)]) (fun hm => absurd (hbi.2 hm) (by decide))
    | true =>
      cases c with
      | true => exact skip (by unfold shTry; rw [hb, Option.bind_some, if_pos rfl, hc', Option.bind_some, if_pos rfl]) (fun _ => hci.1 rfl)
      | false =>
        have ht : shTry k cells L ((nxt p d).f0, (nxt p d).f1) = some (L ++ [nxt p d]) := by unfold shTry; rw [hb, Option.bind_some, if_pos rfl, hc', Option.bind_some, if_neg (by decide)]
        have hin : nxt p d ∈ cells := hbi.1 rfl
        have hnot : nxt p d ∉ L := fun hm => absurd (hci.2 hm) (by decide)
        obtain ⟨new, e1, e2, e3, e4⟩ := shSteps_f hk hc hp ds (L ++ [nxt p d]) (by
          rw [List.nodup_append]
          refine ⟨h, by simp, fun a ha b hb => ?_⟩
          rw [List.mem_singleton] at hb
          subst hb
          exact fun e => hnot (e ▸ ha)) (fun x hx => by
          rcases List.mem_append.1 hx with hx | hx
          · exact hs x hx
          · rw [List.mem_singleton] at hx; exact hx ▸ hin)
        refine ⟨nxt p d :: new, by simp only [shSteps]; rw [next_f hp, Option.bind_some, ht, Option.bind_some, e1]; simp, by simpa using e2, fun y hy => ?_, fun e he hec => ?_⟩
        · rcases List.mem_cons.1 hy with rfl | hy
          · exact ⟨hin, d, List.mem_cons_self, rfl⟩
          · obtain ⟨h1, e, he, e'⟩ := e3 y hy
            exact ⟨h1, e, List.mem_cons_of_mem _ he, e'⟩
        · rcases List.mem_cons.1 he with rfl | he
          · simp
          · simpa using e4 e he hec
theorem nx_nxt (p y : S45) : (∃ d ∈ [(110 : Int), 101, 115, 119], nxt p d = y) ↔ Nx p y := by
  simp only [List.mem_cons, List.not_mem_nil, or_false, exists_eq_or_imp, exists_eq_left, nxt, Nx]
  simp only [show ((101 : Int) = 110) = False by decide, show ((115 : Int) = 110) = False by decide, show ((115 : Int) = 101) = False by decide, show ((119 : Int) = 110) = False by decide, show ((119 : Int) = 101) = False by decide, show ((119 : Int) = 115) = False by decide, if_true, if_false]
  constructor <;> (rintro (h | h | h | h) <;> simp [h.symm] <;> simp [h])
theorem shBfs_f {k : Nat} (hk : 2100 ≤ k) {cells : List S45} (hc : cells.length ≤ 990) (hnear : ∀ p ∈ cells, Near p) {a : S45} : ∀ (n i : Nat) (L : List S45), Clo Nx cells a i L → i ≤ L.length → cells.length + 1 ≤ n + i → ∃ M, shBfs k cells n i L = some M ∧ Clo Nx cells a M.length M
  | 0, i, L, h, hi, hn => by have := h.len; omega
  | n + 1, i, L, h, hi, hn => by
    have hl := h.len
    simp only [shBfs]
    by_cases hlt : i < L.length
    · rw [if_pos hlt, if_pos (by omega)]
      obtain ⟨p, hp⟩ : ∃ p, L[i]? = some p := ⟨_, List.getElem?_eq_getElem hlt⟩
      rw [rdT hp]
      obtain ⟨new, e1, e2, e3, e4⟩ := shSteps_f hk (by omega) (hnear p (h.sub p (List.mem_of_getElem? hp))) [110, 101, 115, 119] L h.nodup h.sub
      rw [e1, Option.bind_some]
      refine shBfs_f hk hc hnear n (i + 1) (L ++ new) (h.step hp ⟨⟨new, rfl, fun y hy => ⟨(e3 y hy).1, (nx_nxt p y).1 (e3 y hy).2⟩⟩, e2, fun y hy hxy => ?_⟩) (by simp; omega) (by omega)
      obtain ⟨d, hd, rfl⟩ := (nx_nxt p y).2 hxy
      exact e4 d hd hy
    · rw [if_neg hlt]
      obtain rfl : i = L.length := by omega
      exact ⟨L, rfl, h⟩

/-! The reference looks for what comes together. -/
def AdjZ (w : Nat) (a b : Int) : Prop := b - a = (w : Int) ∨ b - a = -(w : Int) ∨ (b - a = 1 ∧ Int.tmod b (w : Int) ≠ 0) ∨ (b - a = -1 ∧ Int.tmod a (w : Int) ≠ 0)
section
variable {w : Nat} (w1 : 1 ≤ w) (hw : w ≤ 1000) {cs : List Int} (hl : cs.length ≤ 1000) (hb : ∀ x ∈ cs, 0 ≤ x ∧ x ≤ 10000000)
include w1 hw hl hb
theorem is_l3 (a : Int) (i : Nat) (hi : i ≤ 100000) : ∀ (d j k : Nat) (L : List Int), j + d = cs.length → 2000 ≤ k → L.Nodup → (∀ x ∈ L, x ∈ cs) → L[i]? = some a →
    ∃ new, spec_piIs.l3 (k + d + 1) w cs L i cs (cs.length : Int) (j : Int) = spec_piIs.l2 k w cs (L ++ new) ((i + 1 : Nat) : Int) ∧ (L ++ new).Nodup ∧ (∀ y ∈ new, y ∈ cs ∧ AdjZ w a y) ∧ (∀ m y, j ≤ m → cs[m]? = some y → AdjZ w a y → y ∈ L ++ new)
  | 0, j, k, L, hj, hk, hn, hs, ha => by
    refine ⟨[], ?_, by simpa using hn, by simp, fun m y hm hy => ?_⟩
    · simp only [spec_piIs.l3, List.append_nil]
      rw [if_neg (by omega), wa1 (by omega)]
    · have := (List.getElem?_eq_some_iff.1 hy).1
      omega
  | d + 1, j, k, L, hj, hk, hn, hs, ha => by
    have hjl : j < cs.length := by omega
    obtain ⟨b, hbj⟩ : ∃ b, cs[j]? = some b := ⟨_, List.getElem?_eq_getElem hjl⟩
    have hbm := List.mem_of_getElem? hbj
    have ham := hs a (List.mem_of_getElem? ha)
    have hb0 := hb b hbm
    have ha0 := hb a ham
    have hil := (List.getElem?_eq_some_iff.1 ha).1
    have hll := nodup_len L cs hn hs
    have er : rd cs (j : Int) = b := by unfold rd; rw [Int.toNat_natCast, List.getD_eq_getElem?_getD, hbj]; rfl
    have ea : rd L (i : Int) = a := by unfold rd; rw [Int.toNat_natCast, List.getD_eq_getElem?_getD, ha]; rfl
    have hfuel : k + (d + 1) + 1 = (k + d + 1) + 1 := by omega
    obtain ⟨t, ht, hti⟩ := has_f (k + d + 1) L b (by omega) (by omega)
    -- behind an element that is not next to it
    have hskip : ¬ AdjZ w a b → ∃ new, spec_piIs.l3 (k + d + 1) w cs L i cs (cs.length : Int) ((j + 1 : Nat) : Int) = spec_piIs.l2 k w cs (L ++ new) ((i + 1 : Nat) : Int) ∧ (L ++ new).Nodup ∧ (∀ y ∈ new, y ∈ cs ∧ AdjZ w a y) ∧ (∀ m y, j ≤ m → cs[m]? = some y → AdjZ w a y → y ∈ L ++ new) := by
      intro hna
      obtain ⟨new, e1, e2, e3, e4⟩ := is_l3 a i hi d (j + 1) k L (by omega) hk hn hs ha
      refine ⟨new, e1, e2, e3, fun m y hm hy hay => ?_⟩
      by_cases em : m = j
      · subst em
        rw [hbj] at hy
        exact absurd (Option.some.inj hy ▸ hay) hna
      · exact e4 m y (by omega) hy hay
    have hhas : AdjZ w a b → ∃ new, ((spec_l1Has.f (k + d + 1) L b).bind fun t => (if t = true then (spec_piIs.l3 (k + d + 1) w cs L i cs (cs.length : Int) ((j + 1 : Nat) : Int)) else (if L.length < 17592186044416 then (spec_piIs.l3 (k + d + 1) w cs (L ++ [b]) i cs (cs.length : Int) ((j + 1 : Nat) : Int)) else (none)))) = spec_piIs.l2 k w cs (L ++ new) ((i + 1 : Nat) : Int) ∧ (L ++ new).Nodup ∧ (∀ y ∈ new, y ∈ cs ∧ AdjZ w a y) ∧ (∀ m y, j ≤ m → cs[m]? = some y → AdjZ w a y → y ∈ L ++ new) := by
      intro hadj
      rw [ht, Option.bind_some]
      cases t with
      | true =>
        rw [if_pos rfl]
        obtain ⟨new, e1, e2, e3, e4⟩ := is_l3 a i hi d (j + 1) k L (by omega) hk hn hs ha
        refine ⟨new, e1, e2, e3, fun m y hm hy hay => ?_⟩
        by_cases em : m = j
        · subst em
          rw [hbj] at hy
          exact List.mem_append_left _ (Option.some.inj hy ▸ hti.1 rfl)
        · exact e4 m y (by omega) hy hay
      | false =>
        have hnm : b ∉ L := fun h => by have := hti.2 h; cases this
        rw [if_neg (by decide), if_pos (by omega)]
        obtain ⟨new, e1, e2, e3, e4⟩ := is_l3 a i hi d (j + 1) k (L ++ [b]) (by omega) hk (by
          rw [List.nodup_append]
          refine ⟨hn, by simp, fun x hx y hy e => ?_⟩
          rw [List.mem_singleton] at hy
          exact hnm (hy ▸ e ▸ hx)) (fun x hx => by
          rcases List.mem_append.1 hx with hx | hx
          · exact hs x hx
          · rw [List.mem_singleton] at hx; exact hx ▸ hbm) (by rw [List.getElem?_append_left hil]; exact ha)
        refine ⟨b :: new, by rw [e1]; simp, by simpa using e2, fun y hy => ?_, fun m y hm hy hay => ?_⟩
        · rcases List.mem_cons.1 hy with rfl | hy
          · exact ⟨hbm, hadj⟩
          · exact e3 y hy
        · by_cases em : m = j
          · subst em
            rw [hbj] at hy
            rw [← Option.some.inj hy]
            simp
          · simpa using e4 m y (by omega) hy hay
    rw [hfuel]
    generalize k + d + 1 = m at hskip hhas ⊢
    simp only [spec_piIs.l3]
    rw [if_pos (by omega), if_pos (by omega), if_pos (by omega), if_pos (by omega), if_pos (by omega), er, ea, w64 (b - a) (by omega) (by omega), w64 (-(w : Int)) (by omega) (by omega), wa1 (by omega)]
    by_cases c1 : b - a = (w : Int)
    · rw [if_pos c1]; exact hhas (.inl c1)
    rw [if_neg c1]
    by_cases c2 : b - a = -(w : Int)
    · rw [if_pos c2]; exact hhas (.inr (.inl c2))
    rw [if_neg c2]
    by_cases c3 : b - a = 1
    · rw [if_pos c3, if_neg (by omega)]
      by_cases c4 : Int.tmod b (w : Int) = 0
      · rw [if_pos c4, if_neg (by omega)]
        exact hskip (by rintro (h | h | ⟨_, h⟩ | ⟨h, _⟩) <;> first | exact c1 h | exact c2 h | exact h c4 | omega)
      · rw [if_neg c4]; exact hhas (.inr (.inr (.inl ⟨c3, c4⟩)))
    rw [if_neg c3]
    by_cases c5 : b - a = -1
    · rw [if_pos c5, if_neg (by omega)]
      by_cases c4 : Int.tmod a (w : Int) = 0
      · rw [if_pos c4]
        exact hskip (by rintro (h | h | ⟨h, _⟩ | ⟨_, h⟩) <;> first | exact c1 h | exact c2 h | exact h c4 | omega)
      · rw [if_neg c4]; exact hhas (.inr (.inr (.inr ⟨c5, c4⟩)))
    rw [if_neg c5]
    exact hskip (by rintro (h | h | ⟨h, _⟩ | ⟨h, _⟩) <;> first | exact c1 h | exact c2 h | exact c3 h | exact c5 h)
theorem is_l2 {a0 : Int} : ∀ (n i k : Nat) (L : List Int), Clo (AdjZ w) cs a0 i L → i ≤ L.length → cs.length + 1 ≤ n + i → 2000 + (cs.length + 3) * n ≤ k → ∃ M, spec_piIs.l2 k w cs L (i : Int) = some ((M.length : Int) == (cs.length : Int)) ∧ Clo (AdjZ w) cs a0 M.length M
  | 0, i, k, L, h, hi, hn, hk => by have := h.len; omega
  | n + 1, i, k, L, h, hi, hn, hk => by
    have hlen := h.len
    obtain ⟨k, rfl⟩ : ∃ m, k = m + 1 := ⟨k - 1, by omega⟩
    have hkm : 2000 + (cs.length + 3) * n + cs.length + 2 ≤ k := by rw [Nat.mul_succ] at hk; omega
    simp only [spec_piIs.l2]
    by_cases hlt : i < L.length
    · rw [if_pos (by omega)]
      obtain ⟨p, hp⟩ : ∃ p, L[i]? = some p := ⟨_, List.getElem?_eq_getElem hlt⟩
      obtain ⟨q, rfl⟩ : ∃ q, k = q + cs.length + 1 := ⟨k - cs.length - 1, by omega⟩
      obtain ⟨new, e1, e2, e3, e4⟩ := is_l3 w1 hw hl hb p i (by omega) cs.length 0 q L (by omega) (by omega) h.nodup h.sub hp
      rw [show (0 : Int) = ((0 : Nat) : Int) from rfl, e1]
      refine is_l2 n (i + 1) q (L ++ new) (h.step hp ⟨⟨new, rfl, e3⟩, e2, fun y hy hxy => ?_⟩) (by simp; omega) (by omega) (by omega)
      obtain ⟨m, hm⟩ := List.getElem?_of_mem hy
      exact e4 m y (Nat.zero_le _) hm hxy
    · rw [if_neg (by omega)]
      obtain rfl : i = L.length := by omega
      exact ⟨L, rfl, h⟩
end
/-! Numbers and places. -/
theorem enc_inj {w : Nat} {p q : S45} (hp0 : 0 ≤ p.f0) (hp : p.f0 < (w : Int)) (hq0 : 0 ≤ q.f0) (hq : q.f0 < (w : Int)) (h : enc w p = enc w q) : p = q := by
  unfold enc at h
  have hw : (0 : Int) < (w : Int) := by omega
  have e1 : p.f1 = q.f1 := by
    have h1 : (p.f1 * (w : Int) + p.f0) / (w : Int) = p.f1 := by
      rw [Int.add_comm, Int.add_mul_ediv_right _ _ (by omega), Int.ediv_eq_zero_of_lt hp0 hp, Int.zero_add]
    have h2 : (q.f1 * (w : Int) + q.f0) / (w : Int) = q.f1 := by
      rw [Int.add_comm, Int.add_mul_ediv_right _ _ (by omega), Int.ediv_eq_zero_of_lt hq0 hq, Int.zero_add]
    rw [← h1, h, h2]
  have e0 : p.f0 = q.f0 := by rw [e1] at h; omega
  cases p; cases q
  simp only at e0 e1
  rw [e0, e1]
theorem enc_mod {w : Nat} {p : S45} (hp0 : 0 ≤ p.f0) (hp : p.f0 < (w : Int)) (h1 : 0 ≤ p.f1) : Int.tmod (enc w p) (w : Int) = p.f0 ∧ Int.tdiv (enc w p) (w : Int) = p.f1 := by
  have hw : (0 : Int) < (w : Int) := by omega
  have hm : 0 ≤ p.f1 * (w : Int) := Int.mul_nonneg h1 (by omega)
  unfold enc
  constructor
  · rw [Int.tmod_eq_emod_of_nonneg (by omega), Int.add_comm, Int.add_mul_emod_self_right, Int.emod_eq_of_lt hp0 hp]
  · rw [Int.tdiv_eq_ediv_of_nonneg (by omega), Int.add_comm, Int.add_mul_ediv_right _ _ (by omega), Int.ediv_eq_zero_of_lt hp0 hp, Int.zero_add]
theorem enc_up (w : Nat) (x y : Int) : enc w ⟨x, y + 1⟩ = enc w ⟨x, y⟩ + (w : Int) := by
  unfold enc
  simp only [Int.add_mul, Int.one_mul]
  omega
theorem enc_right (w : Nat) (x y : Int) : enc w ⟨x + 1, y⟩ = enc w ⟨x, y⟩ + 1 := by
  unfold enc
  simp only
  omega
theorem nx_adj {w : Nat} {p q : S45} (hp0 : 0 ≤ p.f0) (hp : p.f0 < (w : Int)) (hp1 : 0 ≤ p.f1) (hq0 : 0 ≤ q.f0) (hq : q.f0 < (w : Int)) (hq1 : 0 ≤ q.f1) : Nx p q ↔ AdjZ w (enc w p) (enc w q) := by
  obtain ⟨x, y⟩ := p
  obtain ⟨x', y'⟩ := q
  simp only at hp0 hp hp1 hq0 hq hq1
  have mp := (enc_mod (w := w) (p := ⟨x, y⟩) hp0 hp hp1).1
  have mq := (enc_mod (w := w) (p := ⟨x', y'⟩) hq0 hq hq1).1
  simp only at mp mq
  unfold AdjZ
  rw [mp, mq]
  constructor
  · rintro (h | h | h | h) <;> (rw [S45.mk.injEq] at h; obtain ⟨h1, h2⟩ := h; dsimp only at h1 h2; subst h1; subst h2)
    · right; left
      have := enc_up w x' (y - 1)
      rw [show y - 1 + 1 = y by omega] at this
      omega
    · right; right; left
      have := enc_right w x y'
      omega
    · left
      have := enc_up w x' y
      omega
    · right; right; right
      have := enc_right w (x - 1) y'
      rw [show x - 1 + 1 = x by omega] at this
      omega
  · rintro (h | h | ⟨h, hne⟩ | ⟨h, hne⟩)
    · have e := enc_inj (w := w) (p := ⟨x', y'⟩) (q := ⟨x, y + 1⟩) hq0 hq hp0 hp (by rw [enc_up]; omega)
      exact .inr (.inr (.inl e))
    · have e := enc_inj (w := w) (p := ⟨x, y⟩) (q := ⟨x', y' + 1⟩) hp0 hp hq0 hq (by rw [enc_up]; omega)
      rw [S45.mk.injEq] at e
      obtain ⟨rfl, rfl⟩ := e
      left; simp
    · have e := enc_inj (w := w) (p := ⟨x, y⟩) (q := ⟨x' - 1, y'⟩) hp0 hp (by simp only; omega) (by simp only; omega) (by
        have := enc_right w (x' - 1) y'
        rw [show x' - 1 + 1 = x' by omega] at this
        omega)
      rw [S45.mk.injEq] at e
      obtain ⟨rfl, rfl⟩ := e
      right; left; simp
    · have e := enc_inj (w := w) (p := ⟨x', y'⟩) (q := ⟨x - 1, y⟩) hq0 hq (by simp only; omega) (by simp only; omega) (by
        have := enc_right w (x - 1) y
        rw [show x - 1 + 1 = x by omega] at this
        omega)
      exact .inr (.inr (.inr e))

/-! The text that the reference makes of some cells. -/
def Mn (xs : List Int) (a L : Int) : Prop := L ≤ a ∧ (∀ x ∈ xs, L ≤ x) ∧ (L = a ∨ L ∈ xs)
def Mx (xs : List Int) (a R : Int) : Prop := a ≤ R ∧ (∀ x ∈ xs, x ≤ R) ∧ (R = a ∨ R ∈ xs)
theorem Mn.cons {xs : List Int} {a L x m : Int} (hm : m = if a < x then a else x) (h : Mn xs m L) : Mn (x :: xs) a L := by
  obtain ⟨h1, h2, h3⟩ := h
  by_cases c : a < x
  · rw [if_pos c] at hm
    subst hm
    exact ⟨h1, fun y hy => by rcases List.mem_cons.1 hy with rfl | hy; · omega
                              · exact h2 y hy, h3.imp id (fun h => List.mem_cons_of_mem _ h)⟩
  · rw [if_neg c] at hm
    subst hm
    exact ⟨by omega, fun y hy => by rcases List.mem_cons.1 hy with rfl | hy; · omega
                                    · exact h2 y hy, .inr (h3.elim (fun h => h ▸ List.mem_cons_self) (fun h => List.mem_cons_of_mem _ h))⟩
theorem Mx.cons {xs : List Int} {a R x m : Int} (hm : m = if a > x then a else x) (h : Mx xs m R) : Mx (x :: xs) a R := by
  obtain ⟨h1, h2, h3⟩ := h
  by_cases c : a > x
  · rw [if_pos c] at hm
    subst hm
    exact ⟨h1, fun y hy => by rcases List.mem_cons.1 hy with rfl | hy; · omega
                              · exact h2 y hy, h3.imp id (fun h => List.mem_cons_of_mem _ h)⟩
  · rw [if_neg c] at hm
    subst hm
    exact ⟨by omega, fun y hy => by rcases List.mem_cons.1 hy with rfl | hy; · omega
                                    · exact h2 y hy, .inr (h3.elim (fun h => h ▸ List.mem_cons_self) (fun h => List.mem_cons_of_mem _ h))⟩
theorem least_f (a b : Int) : spec_l1Least.f a b = some (if a < b then a else b) := by unfold spec_l1Least.f; split <;> rfl
theorem most_f (a b : Int) : spec_l1Most.f a b = some (if a > b then a else b) := by unfold spec_l1Most.f; split <;> rfl
/-- a cell of a grid w wide -/
def InW (w : Nat) (p : S45) : Prop := 0 ≤ p.f0 ∧ p.f0 < (w : Int) ∧ 0 ≤ p.f1 ∧ p.f1 ≤ 1000000
section
variable {w : Nat} (w1 : 1 ≤ w) (hw : w ≤ 1000) {cells : List S45} (hc : ∀ p ∈ cells, InW w p) (hl : cells.length ≤ 1000)
include w1 hw hc hl
theorem pt_l0 : ∀ (d i k : Nat) (a b c e : Int), i + d = cells.length → ∃ L R T B, spec_piText.l0 (k + d + 1) w (cells.map (enc w)) a b c e (cells.map (enc w)) ((cells.map (enc w)).length : Int) (i : Int) = spec_piText.l1 k w (cells.map (enc w)) L R T B ⟨#[]⟩ T ∧
    Mn ((cells.drop i).map (·.f0)) a L ∧ Mx ((cells.drop i).map (·.f0)) b R ∧ Mn ((cells.drop i).map (·.f1)) c T ∧ Mx ((cells.drop i).map (·.f1)) e B
  | 0, i, k, a, b, c, e, hi => by
    refine ⟨a, b, c, e, ?_, ?_⟩
    · simp only [spec_piText.l0]
      rw [if_neg (by rw [List.length_map]; omega)]
    · rw [List.drop_eq_nil_of_le (by omega)]
      exact ⟨⟨Int.le_refl _, by simp, .inl rfl⟩, ⟨Int.le_refl _, by simp, .inl rfl⟩, ⟨Int.le_refl _, by simp, .inl rfl⟩, ⟨Int.le_refl _, by simp, .inl rfl⟩⟩
  | d + 1, i, k, a, b, c, e, hi => by
    have hil : i < cells.length := by omega
    obtain ⟨p, hp⟩ : ∃ p, cells[i]? = some p := ⟨_, List.getElem?_eq_getElem hil⟩
    have hpw := hc p (List.mem_of_getElem? hp)
    obtain ⟨p0, pw, q0, qh⟩ := hpw
    obtain ⟨em, ed⟩ := enc_mod (w := w) p0 pw q0
    have er : rd (cells.map (enc w)) (i : Int) = enc w p := by unfold rd; rw [Int.toNat_natCast, List.getD_eq_getElem?_getD, List.getElem?_map, hp]; rfl
    obtain ⟨L, R, T, B, h1, h2, h3, h4, h5⟩ := pt_l0 d (i + 1) k (if a < p.f0 then a else p.f0) (if b > p.f0 then b else p.f0) (if c < p.f1 then c else p.f1) (if e > p.f1 then e else p.f1) (by omega)
    have edrop : cells.drop i = p :: cells.drop (i + 1) := by rw [List.drop_eq_getElem_cons hil]; rw [List.getElem?_eq_getElem hil] at hp; rw [Option.some.inj hp]
    refine ⟨L, R, T, B, ?_, ?_⟩
    · rw [show k + (d + 1) + 1 = (k + d + 1) + 1 by omega]
      rw [← h1]
      generalize k + d + 1 = m
      simp only [spec_piText.l0]
      rw [if_pos (by rw [List.length_map]; omega), if_pos (by omega), if_pos (by rw [List.length_map]; omega), if_neg (by omega), er, em, ed, w64 p.f1 (by omega) (by omega), least_f, Option.bind_some, most_f, Option.bind_some, least_f, Option.bind_some, most_f, Option.bind_some, wa1 (by omega)]
    · rw [edrop, List.map_cons, List.map_cons]
      exact ⟨h2.cons rfl, h3.cons rfl, h4.cons rfl, h5.cons rfl⟩
variable (P : Nat → Nat → Bool) (hP : ∀ y x : Nat, x < w → (P y x = true ↔ (⟨(x : Int), (y : Int)⟩ : S45) ∈ cells))
include hP
theorem pt_l2 (l r t b y : Nat) (hr : r < w) (hy : y ≤ 100000) : ∀ (d x k : Nat) (acc : List UInt8), x + d = r + 1 → 2000 ≤ k → acc.length + d ≤ 1000000 →
    spec_piText.l2 (k + d + 1) w (cells.map (enc w)) l r t b (B8 acc) (y : Int) (x : Int) = spec_piText.l1 k w (cells.map (enc w)) l r t b (B8 (acc ++ tx (P y) 111 x d)) ((y + 1 : Nat) : Int)
  | 0, x, k, acc, hx, hk, ha => by
    simp only [spec_piText.l2, tx, List.append_nil]
    rw [if_neg (by omega), wa1 (by omega)]
  | d + 1, x, k, acc, hx, hk, ha => by
    have hm : y * w ≤ 100000 * 1000 := Nat.mul_le_mul hy hw
    have hxw : x < w := by omega
    have e3 : wrap64 ((wrap64 ((y : Int) * (w : Int))) + (x : Int)) = enc w ⟨(x : Int), (y : Int)⟩ := by
      unfold enc
      have e3 : (y : Int) * (w : Int) = ((y * w : Nat) : Int) := by push_cast; rfl
      rw [e3, w64 ((y * w : Nat) : Int) (by omega) (by omega), w64 _ (by omega) (by omega)]
    obtain ⟨v, hv, hvi⟩ := has_f (k + d + 1) (cells.map (enc w)) (enc w ⟨(x : Int), (y : Int)⟩) (by rw [List.length_map]; omega) (by rw [List.length_map]; omega)
    have hvP : v = P y x := by
      rw [Bool.eq_iff_iff, hvi, hP y x hxw]
      constructor
      · intro h
        obtain ⟨p, hp, e⟩ := List.mem_map.1 h
        obtain ⟨p0, pw, _⟩ := hc p hp
        have := enc_inj (w := w) (p := p) (q := ⟨(x : Int), (y : Int)⟩) p0 pw (by simp) (by simp only; omega) e
        exact this ▸ hp
      · intro h; exact List.mem_map.2 ⟨_, h, rfl⟩
    have ih := fun c => pt_l2 l r t b y hr hy d (x + 1) k (acc ++ [c]) (by omega) hk (by rw [List.length_append, List.length_singleton]; omega)
    rw [show k + (d + 1) + 1 = (k + d + 1) + 1 by omega]
    generalize hmm : k + d + 1 = m at hv ih ⊢
    simp only [spec_piText.l2]
    rw [if_pos (by omega), e3, hv, Option.bind_some, wa1 (by omega), hvP]
    cases hb : P y x with
    | true =>
      rw [if_pos rfl, if_pos (by rw [B8_size]; omega), show (⟨#[111]⟩ : ByteArray) = B8 [111] from rfl, B8_app, ih]
      simp only [tx, hb, sg, if_true, List.append_assoc, List.singleton_append]
    | false =>
      rw [if_neg (by decide), if_pos (by rw [B8_size]; omega), show (⟨#[46]⟩ : ByteArray) = B8 [46] from rfl, B8_app, ih]
      simp only [tx, hb, sg, Bool.false_eq_true, if_false, List.append_assoc, List.singleton_append]
def bT (P : Nat → Nat → Bool) (l n t : Nat) : Nat → Nat → List UInt8
  | _, 0 => []
  | y, d + 1 => (if y > t then [47] else []) ++ tx (P y) 111 l n ++ bT P l n t (y + 1) d
theorem pt_l1 (l r t b : Nat) (hr : r < w) (hlr : l ≤ r + 1) (hbb : b ≤ 10000) : ∀ (d y k : Nat) (acc : List UInt8), y + d = b + 1 → 2000 + (w + 4) * d + 1 ≤ k → acc.length + (w + 1) * d ≤ 900000 →
    spec_piText.l1 k w (cells.map (enc w)) l r t b (B8 acc) (y : Int) = some (B8 (acc ++ bT P l (r + 1 - l) t y d))
  | 0, y, k, acc, hy, hk, ha => by
    obtain ⟨k, rfl⟩ : ∃ m, k = m + 1 := ⟨k - 1, by omega⟩
    simp only [spec_piText.l1, bT, List.append_nil]
    rw [if_neg (by omega)]
  | d + 1, y, k, acc, hy, hk, ha => by
    have e1 : (w + 4) * (d + 1) = (w + 4) * d + w + 4 := by rw [Nat.mul_succ]; omega
    have e2 : (w + 1) * (d + 1) = (w + 1) * d + w + 1 := by rw [Nat.mul_succ]; omega
    obtain ⟨k, rfl⟩ : ∃ m, k = m + (r + 1 - l) + 3 := ⟨k - (r + 1 - l) - 3, by omega⟩
    have hj : ∀ acc' : List UInt8, acc'.length ≤ acc.length + 1 → spec_piText.j2 (k + (r + 1 - l) + 2) w (cells.map (enc w)) l r t b (B8 acc') (y : Int) = some (B8 (acc' ++ tx (P y) 111 l (r + 1 - l) ++ bT P l (r + 1 - l) t (y + 1) d)) := by
      intro acc' h'
      simp only [spec_piText.j2]
      rw [pt_l2 w1 hw hc hl P hP l r t b y hr (by omega) (r + 1 - l) l k acc' (by omega) (by omega) (by omega), pt_l1 l r t b hr hlr hbb d (y + 1) k _ (by omega) (by omega) (by rw [List.length_append, tx_len]; omega)]
    rw [show k + (r + 1 - l) + 3 = (k + (r + 1 - l) + 2) + 1 by omega]
    generalize k + (r + 1 - l) + 2 = m at hj ⊢
    simp only [spec_piText.l1]
    rw [if_pos (by omega)]
    by_cases c : y > t
    · rw [if_pos (by omega), if_pos (by rw [B8_size]; omega), show (⟨#[47]⟩ : ByteArray) = B8 [47] from rfl, B8_app, hj _ (by simp)]
      simp only [bT, if_pos c, List.append_assoc]
    · rw [if_neg (by omega), hj _ (by omega)]
      simp only [bT, if_neg c, List.append_assoc, List.nil_append]
end
theorem bT_len (P : Nat → Nat → Bool) (l n t : Nat) : ∀ (d y : Nat), t < y → (bT P l n t y d).length = (n + 1) * d
  | 0, y, _ => rfl
  | d + 1, y, h => by
    rw [bT, if_pos h, List.length_append, List.length_append, tx_len, bT_len P l n t d (y + 1) (by omega), Nat.mul_succ, List.length_singleton]
    omega
theorem bT_len0 (P : Nat → Nat → Bool) (l n t d : Nat) : (bT P l n t t (d + 1)).length = n + (n + 1) * d := by
  rw [bT, if_neg (by omega), List.nil_append, List.length_append, tx_len, bT_len P l n t d (t + 1) (by omega)]

/-! IsShapeText: both programs tell the same. -/
theorem dw_mem {p : UInt8 → Bool} : ∀ (l : List UInt8) (x : UInt8), x ∈ l → p x = false → x ∈ l.dropWhile p
  | a :: l, x, hx, hp => by
    rw [List.dropWhile_cons]
    by_cases ha : p a = true
    · rw [if_pos ha]
      rcases List.mem_cons.1 hx with rfl | hx
      · rw [hp] at ha; cases ha
      · exact dw_mem l x hx hp
    · rw [if_neg ha]; exact hx
theorem dw_nil {p : UInt8 → Bool} : ∀ (l : List UInt8), (∀ x ∈ l, p x = true) → l.dropWhile p = []
  | [], _ => rfl
  | a :: l, h => by
    rw [List.dropWhile_cons, if_pos (h a List.mem_cons_self)]
    exact dw_nil l (fun x hx => h x (List.mem_cons_of_mem _ hx))
theorem trim_nil (l cs : List UInt8) : Lib.trimS l cs = [] ↔ ∀ x ∈ l, cs.contains x = true := by
  constructor
  · intro h x hx
    cases hc : cs.contains x with
    | true => rfl
    | false =>
      exfalso
      have h1 : x ∈ Lib.trimRightS l cs := by
        unfold Lib.trimRightS
        rw [List.mem_reverse]
        exact dw_mem _ x (List.mem_reverse.2 hx) hc
      have h2 : x ∈ Lib.trimS l cs := by
        unfold Lib.trimS Lib.trimLeftS
        exact dw_mem _ x h1 hc
      rw [h] at h2
      cases h2
  · intro h
    unfold Lib.trimS Lib.trimLeftS Lib.trimRightS
    rw [dw_nil l.reverse (fun x hx => h x (List.mem_reverse.1 hx))]
    rfl
theorem tx_row (r : List UInt8) (p : Nat → Bool) (hr : ∀ b ∈ r, b = 111 ∨ b = 46) (hp : ∀ i, p i = (r[i]? == some 111)) : ∀ (d i : Nat), i + d = r.length → tx p 111 i d = r.drop i
  | 0, i, h => by rw [List.drop_eq_nil_of_le (by omega)]; rfl
  | d + 1, i, h => by
    have hi : i < r.length := by omega
    rw [tx, tx_row r p hr hp d (i + 1) (by omega), List.drop_eq_getElem_cons hi]
    congr 1
    rw [hp i, List.getElem?_eq_getElem hi]
    rcases hr r[i] (List.getElem_mem hi) with e | e <;> rw [e] <;> rfl
theorem jn_flat : ∀ (rs : List (List UInt8)) (r : List UInt8), jn (r :: rs) = r ++ rs.flatMap fun q => 47 :: q
  | [], r => by simp [jn]
  | q :: rs, r => by rw [jn_cons _ (by simp), jn_flat rs q]; simp
theorem bT_tail (P : Nat → Nat → Bool) (w : Nat) (rows : List (List UInt8)) (hrow : ∀ y r, rows[y]? = some r → tx (P y) 111 0 w = r) : ∀ (d y : Nat), y + d = rows.length → 0 < y → bT P 0 w 0 y d = (rows.drop y).flatMap fun q => 47 :: q
  | 0, y, h, _ => by rw [List.drop_eq_nil_of_le (by omega)]; rfl
  | d + 1, y, h, h0 => by
    have hy : y < rows.length := by omega
    rw [bT, if_pos h0, bT_tail P w rows hrow d (y + 1) (by omega) (by omega), List.drop_eq_getElem_cons hy, List.flatMap_cons, hrow y _ (List.getElem?_eq_getElem hy)]
    simp
theorem bT_jn (P : Nat → Nat → Bool) (w : Nat) (rows : List (List UInt8)) (hne : 0 < rows.length) (hrow : ∀ y r, rows[y]? = some r → tx (P y) 111 0 w = r) : bT P 0 w 0 0 rows.length = jn rows := by
  obtain ⟨r, rs, rfl⟩ := List.exists_cons_of_ne_nil (List.ne_nil_of_length_pos hne)
  rw [List.length_cons, bT, if_neg (by omega), bT_tail P w (r :: rs) hrow rs.length 1 (by simp; omega) (by omega), jn_flat, hrow 0 r rfl]
  simp
theorem any_ex {f : S45 → Bool} {cs : List S45} : cs.any f = true ↔ ∃ p ∈ cs, f p = true := List.any_eq_true
section
variable (s : ByteArray)
theorem shRows_spl : shRows s = spl s.data.toList := by
  unfold shRows shPs
  exact split_rows s
theorem rows_pos : 0 < (shPs s).length := by
  have : 0 < (shRows s).length := by rw [shRows_spl]; exact List.length_pos_iff.2 (spl_ne _)
  unfold shRows at this
  rwa [List.length_map] at this
theorem cell_mem (p : S45) : p ∈ shCells 0 (shRows s) ↔ ∃ (j : Nat) (r : ByteArray) (i : Nat), (shPs s)[j]? = some r ∧ r.data.toList[i]? = some 111 ∧ p = ⟨(i : Int), (j : Int)⟩ := by
  rw [shCells_mem]
  constructor
  · rintro ⟨j, r, i, h1, h2, rfl⟩
    unfold shRows at h1
    rw [List.getElem?_map, Option.map_eq_some_iff] at h1
    obtain ⟨q, hq, rfl⟩ := h1
    exact ⟨j, q, i, hq, h2, by rw [Nat.zero_add]⟩
  · rintro ⟨j, r, i, h1, h2, rfl⟩
    refine ⟨j, _, i, ?_, h2, by rw [Nat.zero_add]⟩
    unfold shRows
    rw [List.getElem?_map, h1]
    rfl
theorem cells_count : (shCells 0 (shRows s)).length = Lib.countByte s.data.toList 111 := sh_total s
theorem size_rows (hrows : ∀ r ∈ shPs s, r.size = shW s) : s.size + 1 = (shW s + 1) * (shPs s).length := by
  have h := spl_len s.data.toList (shW s) (fun r hr => by
    rw [← shRows_spl] at hr
    unfold shRows at hr
    obtain ⟨q, hq, rfl⟩ := List.mem_map.1 hr
    rw [← Lib.size_eq]
    exact hrows q hq)
  rw [← shRows_spl, ← Lib.size_eq] at h
  unfold shRows at h
  rwa [List.length_map] at h
variable (hs : s.size ≤ 1000000) (hrows : ∀ r ∈ shPs s, r.size = shW s)
include hs hrows
theorem cells_in : ∀ p ∈ shCells 0 (shRows s), InW (shW s) p ∧ p.f1 < ((shPs s).length : Int) := by
  intro p hp
  obtain ⟨j, r, i, h1, h2, rfl⟩ := (cell_mem s p).1 hp
  have hi := (List.getElem?_eq_some_iff.1 h2).1
  have hj := (List.getElem?_eq_some_iff.1 h1).1
  have hr := hrows r (List.mem_of_getElem? h1)
  have hl := (sh_len s hs).2
  rw [← Lib.size_eq, hr] at hi
  refine ⟨⟨by simp, by simp only; omega, by simp, by simp only; omega⟩, by simp only; omega⟩
theorem cells_near : ∀ p ∈ shCells 0 (shRows s), Near p := by
  intro p hp
  obtain ⟨⟨h1, h2, h3, h4⟩, _⟩ := cells_in s hs hrows p hp
  have : shW s ≤ 1000000 := by
    have hm : rdOf ByteArray.empty (shPs s) 0 ∈ shPs s := by
      unfold rdOf
      rw [List.getD_eq_getElem?_getD, List.getElem?_eq_getElem (show (0 : Int).toNat < (shPs s).length from rows_pos s)]
      exact List.getElem_mem _
    exact Nat.le_trans (shPs_size s _ hm) hs
  exact ⟨h1, by omega, h3, by omega⟩
/-- four sides met by at most twelve cells that hang together: a short text -/
theorem short {a : S45} {M : List S45} (hM : Clo Nx (shCells 0 (shRows s)) a M.length M) (hl : M.length = (shCells 0 (shRows s)).length) (h12 : (shCells 0 (shRows s)).length ≤ 12)
    (e0 : shLf (shCells 0 (shRows s)) = true) (e1 : shTp (shCells 0 (shRows s)) = true) (e2 : shRt (shW s) (shCells 0 (shRows s)) = true) (e3 : shBt ((shPs s).length : Int) (shCells 0 (shRows s)) = true) : s.size ≤ 200 := by
  have hin := hM.whole hl
  have span : ∀ (f : S45 → Int) (n : Nat), (∀ x y, Nx x y → f y ≤ f x + 1 ∧ f x ≤ f y + 1) → (∃ p ∈ shCells 0 (shRows s), f p = 0) → (∃ p ∈ shCells 0 (shRows s), f p = (n : Int) - 1) → n ≤ 12 := by
    intro f n hf ⟨p, hp, ep⟩ ⟨q, hq, eq⟩
    have := span_len f n M (fun c hc => by
      by_cases hca : (c : Int) ≤ f a
      · exact hM.between f hf p (hin p hp) c (.inr ⟨by omega, hca⟩)
      · exact hM.between f hf q (hin q hq) c (.inl ⟨by omega, by omega⟩))
    omega
  have hx : ∀ x y : S45, Nx x y → (y.f0 ≤ x.f0 + 1 ∧ x.f0 ≤ y.f0 + 1) ∧ (y.f1 ≤ x.f1 + 1 ∧ x.f1 ≤ y.f1 + 1) := by
    rintro x y (rfl | rfl | rfl | rfl) <;> simp only <;> omega
  have cv : ∀ {f : S45 → Int} {v : Int}, (shCells 0 (shRows s)).any (fun p => f p == v) = true → ∃ p ∈ shCells 0 (shRows s), f p = v := fun h => by
    obtain ⟨p, hp, e⟩ := any_ex.1 h
    exact ⟨p, hp, beq_iff_eq.1 e⟩
  have w12 := span (·.f0) (shW s) (fun x y h => (hx x y h).1) (cv e0) (cv e2)
  have h12' := span (·.f1) (shPs s).length (fun x y h => (hx x y h).2) (cv e1) (cv e3)
  have hsz := size_rows s hrows
  have : (shW s + 1) * (shPs s).length ≤ 13 * 12 := Nat.mul_le_mul (by omega) h12'
  omega
/-- the text of the cells is the text: the four sides are met -/
theorem text_eq (hb : ∀ r ∈ shPs s, ∀ b ∈ r.data.toList, b = 111 ∨ b = 46) (h200 : s.size ≤ 200) (w1 : 1 ≤ shW s) (hc1 : 1 ≤ (shCells 0 (shRows s)).length) (h12 : (shCells 0 (shRows s)).length ≤ 12) (k : Nat) (hk : 60000 ≤ k) :
    ∃ t, spec_piText.f k (shW s) ((shCells 0 (shRows s)).map (enc (shW s))) = some (B8 t) ∧ (t = s.data.toList ↔ (shLf (shCells 0 (shRows s)) && shTp (shCells 0 (shRows s)) && shRt (shW s) (shCells 0 (shRows s)) && shBt ((shPs s).length : Int) (shCells 0 (shRows s))) = true) := by
  have hsz := size_rows s hrows
  have hpos := rows_pos s
  have hwle : shW s + 1 ≤ 201 := by
    have : (shW s + 1) * 1 ≤ (shW s + 1) * (shPs s).length := Nat.mul_le_mul_left _ hpos
    omega
  have hhle : (shPs s).length ≤ 100 := by
    have : 2 * (shPs s).length ≤ (shW s + 1) * (shPs s).length := Nat.mul_le_mul_right _ (by omega)
    omega
  have hin := cells_in s hs hrows
  obtain ⟨W, hW⟩ : ∃ W, shW s = W := ⟨_, rfl⟩
  obtain ⟨H, hH⟩ : ∃ H, (shPs s).length = H := ⟨_, rfl⟩
  obtain ⟨cells, hcells⟩ : ∃ cells, shCells 0 (shRows s) = cells := ⟨_, rfl⟩
  have hmem := cell_mem s
  rw [hcells] at hin hc1 h12 hmem ⊢
  rw [hW] at hin hwle w1 hsz ⊢
  rw [hH] at hin hhle hpos hsz ⊢
  obtain ⟨P, hPd⟩ : ∃ P : Nat → Nat → Bool, ∀ y x, P y x = (((shPs s).getD y ByteArray.empty).data.toList[x]? == some 111) := ⟨_, fun _ _ => rfl⟩
  have hP : ∀ y x : Nat, x < W → (P y x = true ↔ (⟨(x : Int), (y : Int)⟩ : S45) ∈ cells) := by
    intro y x hx
    rw [hPd, beq_iff_eq, hmem]
    constructor
    · intro h
      by_cases hy : y < (shPs s).length
      · refine ⟨y, (shPs s)[y], x, List.getElem?_eq_getElem hy, ?_, rfl⟩
        rw [List.getD_eq_getElem?_getD, List.getElem?_eq_getElem hy] at h
        exact h
      · rw [List.getD_eq_getElem?_getD, List.getElem?_eq_none (show (shPs s).length ≤ y by omega)] at h
        exact absurd h (by rw [show ((none : Option ByteArray).getD ByteArray.empty).data.toList = [] from rfl]; simp)
    · rintro ⟨j, r, i, h1, h2, e⟩
      rw [S45.mk.injEq] at e
      obtain ⟨e1, e2⟩ := e
      obtain rfl : x = i := by omega
      obtain rfl : y = j := by omega
      rw [List.getD_eq_getElem?_getD, h1]
      exact h2
  have hinW : ∀ p ∈ cells, InW W p := fun p hp => (hin p hp).1
  obtain ⟨L, R, T, B, e0, hL, hR, hT, hB⟩ := pt_l0 w1 (by omega) hinW (by omega) cells.length 0 (k - cells.length - 1) (W : Int) 0 100 0 (by omega)
  rw [List.drop_zero] at hL hR hT hB
  obtain ⟨p, hp⟩ := List.exists_mem_of_length_pos (show 0 < cells.length by omega)
  obtain ⟨⟨p0, pw, p1, _⟩, ph⟩ := hin p hp
  have mL := hL.2.1 p.f0 (List.mem_map.2 ⟨p, hp, rfl⟩)
  have mR := hR.2.1 p.f0 (List.mem_map.2 ⟨p, hp, rfl⟩)
  have mT := hT.2.1 p.f1 (List.mem_map.2 ⟨p, hp, rfl⟩)
  have mB := hB.2.1 p.f1 (List.mem_map.2 ⟨p, hp, rfl⟩)
  obtain ⟨pl, hpl, epl⟩ : ∃ q ∈ cells, q.f0 = L := by
    rcases hL.2.2 with h | h
    · omega
    · exact List.mem_map.1 h
  obtain ⟨pt, hpt, ept⟩ : ∃ q ∈ cells, q.f1 = T := by
    rcases hT.2.2 with h | h
    · omega
    · exact List.mem_map.1 h
  obtain ⟨pr, hpr, epr⟩ : ∃ q ∈ cells, q.f0 = R := by
    rcases hR.2.2 with h | h
    · exact ⟨p, hp, by omega⟩
    · exact List.mem_map.1 h
  obtain ⟨pb, hpb, epb⟩ : ∃ q ∈ cells, q.f1 = B := by
    rcases hB.2.2 with h | h
    · exact ⟨p, hp, by omega⟩
    · exact List.mem_map.1 h
  have il := hin pl hpl
  have ir := hin pr hpr
  have it := hin pt hpt
  have ib := hin pb hpb
  obtain ⟨⟨l0, lw, _, _⟩, _⟩ := il
  obtain ⟨⟨r0, rw_, _, _⟩, _⟩ := ir
  obtain ⟨⟨_, _, t0, _⟩, th⟩ := it
  obtain ⟨⟨_, _, b0, _⟩, bh⟩ := ib
  rw [epl] at l0 lw
  rw [epr] at r0 rw_
  rw [ept] at t0 th
  rw [epb] at b0 bh
  obtain ⟨l, rfl⟩ := Int.eq_ofNat_of_zero_le l0
  obtain ⟨r, rfl⟩ := Int.eq_ofNat_of_zero_le r0
  obtain ⟨t, rfl⟩ := Int.eq_ofNat_of_zero_le t0
  obtain ⟨b, rfl⟩ := Int.eq_ofNat_of_zero_le b0
  have hlr : l ≤ r := by omega
  have htb : t ≤ b := by omega
  have ht1 := pt_l1 w1 (by omega) hinW (by omega) P hP l r t b (by omega) (by omega) (by omega) (b + 1 - t) t (k - cells.length - 1) [] (by omega) (by
    have : (W + 4) * (b + 1 - t) ≤ 204 * 100 := Nat.mul_le_mul (by omega) (by omega)
    omega) (by
    have : (W + 1) * (b + 1 - t) ≤ 201 * 100 := Nat.mul_le_mul (by omega) (by omega)
    simp only [List.length_nil]; omega)
  rw [List.nil_append] at ht1
  refine ⟨bT P l (r + 1 - l) t t (b + 1 - t), ?_, ?_⟩
  · unfold spec_piText.f
    rw [show k - cells.length - 1 + cells.length + 1 = k by omega] at e0
    rw [show ((0 : Nat) : Int) = 0 from rfl] at e0
    rw [e0]
    exact ht1
  · have hrow : ∀ y q, (shRows s)[y]? = some q → tx (P y) 111 0 W = q := by
      intro y q hq
      unfold shRows at hq
      rw [List.getElem?_map, Option.map_eq_some_iff] at hq
      obtain ⟨row, hr, rfl⟩ := hq
      have hrm := List.mem_of_getElem? hr
      have hlen : row.data.toList.length = W := by rw [← Lib.size_eq, hrows row hrm, hW]
      have := tx_row row.data.toList (P y) (hb row hrm) (fun i => by rw [hPd, List.getD_eq_getElem?_getD, hr]; rfl) W 0 (by omega)
      rwa [List.drop_zero] at this
    have hjn : bT P 0 W 0 0 H = s.data.toList := by
      have := bT_jn P W (shRows s) (by unfold shRows; rw [List.length_map]; omega) hrow
      rw [shRows_spl, jn_spl, ← shRows_spl] at this
      unfold shRows at this
      rwa [List.length_map, hH] at this
    have hside : (bT P l (r + 1 - l) t t (b + 1 - t) = s.data.toList) ↔ (l = 0 ∧ r + 1 = W ∧ t = 0 ∧ b + 1 = H) := by
      constructor
      · intro h
        have h1 := congrArg List.length h
        obtain ⟨d, hd⟩ : ∃ d, b + 1 - t = d + 1 := ⟨b - t, by omega⟩
        rw [hd, bT_len0, ← Lib.size_eq] at h1
        have e1 : r + 1 - l + (r + 1 - l + 1) * d + 1 = (r + 1 - l + 1) * (d + 1) := by rw [Nat.mul_succ]; omega
        have hn : r + 1 - l ≤ W := by omega
        have hdH : d + 1 ≤ H := by omega
        have hnW : r + 1 - l = W := by
          rcases Nat.lt_or_ge (r + 1 - l) W with c | c
          · exfalso
            have a1 : (r + 1 - l + 1) * (d + 1) ≤ W * H := Nat.mul_le_mul (by omega) hdH
            have a2 : (W + 1) * H = W * H + H := Nat.succ_mul W H
            omega
          · omega
        have hdHe : d + 1 = H := by
          rcases Nat.lt_or_ge (d + 1) H with c | c
          · exfalso
            have a1 : (r + 1 - l + 1) * (d + 1) ≤ (W + 1) * (H - 1) := Nat.mul_le_mul (by omega) (by omega)
            have a2 : (W + 1) * H = (W + 1) * (H - 1) + (W + 1) := by
              conv => lhs; rw [show H = (H - 1) + 1 by omega, Nat.mul_succ]
            omega
          · omega
        omega
      · rintro ⟨rfl, h2, rfl, h4⟩
        rw [show r + 1 - 0 = W by omega, show b + 1 - 0 = H by omega]
        exact hjn
    rw [hside]
    have cv : ∀ {f : S45 → Int} {v : Int}, cells.any (fun p => f p == v) = true ↔ ∃ p ∈ cells, f p = v := fun {f v} => by
      rw [any_ex]
      constructor
      · rintro ⟨q, hq, e⟩; exact ⟨q, hq, beq_iff_eq.1 e⟩
      · rintro ⟨q, hq, e⟩; exact ⟨q, hq, beq_iff_eq.2 e⟩
    simp only [Bool.and_eq_true]
    unfold shLf shTp shRt shBt
    rw [cv, cv, cv, cv]
    constructor
    · rintro ⟨h1, h2, h3, h4⟩
      exact ⟨⟨⟨⟨pl, hpl, by omega⟩, ⟨pt, hpt, by omega⟩⟩, ⟨pr, hpr, by omega⟩⟩, ⟨pb, hpb, by omega⟩⟩
    · rintro ⟨⟨⟨⟨q1, hq1, f1⟩, ⟨q2, hq2, f2⟩⟩, ⟨q3, hq3, f3⟩⟩, ⟨q4, hq4, f4⟩⟩
      have a1 := hL.2.1 q1.f0 (List.mem_map.2 ⟨q1, hq1, rfl⟩)
      have a2 := hT.2.1 q2.f1 (List.mem_map.2 ⟨q2, hq2, rfl⟩)
      have a3 := hR.2.1 q3.f0 (List.mem_map.2 ⟨q3, hq3, rfl⟩)
      have a4 := hB.2.1 q4.f1 (List.mem_map.2 ⟨q4, hq4, rfl⟩)
      omega
end
theorem good_all {s : ByteArray} (w : Nat) : (shPs s).all (goodRow w) = true ↔ ((∀ r ∈ shPs s, r.size = w) ∧ ∀ r ∈ shPs s, ∀ b ∈ r.data.toList, b = 111 ∨ b = 46) := by
  rw [List.all_eq_true]
  unfold goodRow
  constructor
  · intro h
    refine ⟨fun r hr => ?_, fun r hr b hb => ?_⟩
    · have := h r hr
      rw [Bool.and_eq_true, beq_iff_eq] at this
      exact this.1
    · have := h r hr
      rw [Bool.and_eq_true, List.all_eq_true] at this
      have := this.2 b hb
      rwa [Bool.or_eq_true, beq_iff_eq, beq_iff_eq] at this
  · rintro ⟨h1, h2⟩ r hr
    rw [Bool.and_eq_true, beq_iff_eq, List.all_eq_true]
    exact ⟨h1 r hr, fun b hb => by rw [Bool.or_eq_true, beq_iff_eq, beq_iff_eq]; exact h2 r hr b hb⟩
theorem bytes_trim (s : ByteArray) : Lib.trimS s.data.toList [111, 46, 47] = [] ↔ ∀ r ∈ shPs s, ∀ b ∈ r.data.toList, b = 111 ∨ b = 46 := by
  have hc : ∀ b : UInt8, ([111, 46, 47] : List UInt8).contains b = true ↔ (b = 111 ∨ b = 46 ∨ b = 47) := fun b => by simp [List.contains_cons]
  rw [trim_nil]
  constructor
  · intro h r hr b hb
    have hm : r.data.toList ∈ spl s.data.toList := by rw [← shRows_spl]; exact List.mem_map.2 ⟨r, hr, rfl⟩
    obtain ⟨h1, h2⟩ := spl_mem _ _ hm b hb
    rcases (hc b).1 (h b h1) with e | e | e
    · exact .inl e
    · exact .inr e
    · exact absurd e h2
  · intro h b hb
    rw [hc]
    by_cases e : b = 47
    · exact .inr (.inr e)
    · obtain ⟨r, hr, hbr⟩ := mem_spl _ b hb e
      rw [← shRows_spl] at hr
      obtain ⟨q, hq, rfl⟩ := List.mem_map.1 hr
      rcases h q hq b hbr with e | e
      · exact .inl e
      · exact .inr (.inl e)
/-- what the program tells, by its conditions -/
theorem impl_shape (s : ByteArray) (hs : s.size ≤ 1000000) (k : Nat) (hk : 2100 ≤ k) : ∃ v, impl_IsShapeText.f k s = some v ∧ (v = true → (1 ≤ (shCells 0 (shRows s)).length ∧ (shCells 0 (shRows s)).length ≤ 12) ∧ (shPs s).all (goodRow (shW s)) = true) ∧
    ((1 ≤ (shCells 0 (shRows s)).length ∧ (shCells 0 (shRows s)).length ≤ 12) → (shPs s).all (goodRow (shW s)) = true → ∃ a M, (shCells 0 (shRows s))[0]? = some a ∧ Clo Nx (shCells 0 (shRows s)) a M.length M ∧ v = ((shLf (shCells 0 (shRows s)) && shTp (shCells 0 (shRows s)) && shRt (shW s) (shCells 0 (shRows s)) && shBt ((shPs s).length : Int) (shCells 0 (shRows s))) && (M.length == (shCells 0 (shRows s)).length))) := by
  unfold impl_IsShapeText.f
  rw [if_pos hs, ← cells_count]
  by_cases hc : 1 ≤ (shCells 0 (shRows s)).length ∧ (shCells 0 (shRows s)).length ≤ 12
  · rw [if_pos hc]
    by_cases ht : Lib.trimS s.data.toList [111, 46, 47] = []
    · rw [if_pos ht]
      by_cases hr : ∀ r ∈ shPs s, r.size = shW s
      · rw [if_pos hr]
        have hg := (good_all (shW s)).2 ⟨hr, (bytes_trim s).1 ht⟩
        have hnear := cells_near s hs hr
        obtain ⟨a, ct, hct⟩ := List.exists_cons_of_ne_nil (List.ne_nil_of_length_pos (show 0 < (shCells 0 (shRows s)).length by omega))
        have hta : (shCells 0 (shRows s)).take 1 = [a] := by rw [hct]; rfl
        have ham : a ∈ shCells 0 (shRows s) := by rw [hct]; exact List.mem_cons_self
        obtain ⟨M, hM, hMc⟩ := shBfs_f hk (by omega) hnear k 0 [a] (Clo.one ham) (by simp) (by omega)
        rw [hta, hM, Option.bind_some]
        exact ⟨_, rfl, fun _ => ⟨hc, hg⟩, fun _ _ => ⟨a, M, by rw [hct]; rfl, hMc, rfl⟩⟩
      · rw [if_neg hr]
        exact ⟨false, rfl, fun h => (by cases h), fun _ hg => absurd ((good_all (shW s)).1 hg).1 hr⟩
    · rw [if_neg ht]
      exact ⟨false, rfl, fun h => (by cases h), fun _ hg => absurd ((bytes_trim s).2 ((good_all (shW s)).1 hg).2) ht⟩
  · rw [if_neg hc]
    exact ⟨false, rfl, fun h => (by cases h), fun h => absurd h hc⟩
theorem IsShapeText_pure (s : ByteArray) (hs : s.size ≤ 1000000) (k : Nat) (hk : 150000 ≤ k) : ∃ v, spec_IsShapeText.f k s = some v ∧ impl_IsShapeText.f k s = some v := by
  obtain ⟨v, hv, hv1, hv2⟩ := impl_shape s hs k (by omega)
  refine ⟨v, ?_, hv⟩
  have hx : ∀ {o : Option Bool}, o = some v → (o.bind fun t => some t) = some v := fun h => by rw [h]; rfl
  suffices h : spec_piIs.f k s = some v by
    unfold spec_IsShapeText.f
    exact hx h
  obtain ⟨k, rfl⟩ : ∃ m, k = m + 1 := ⟨k - 1, by omega⟩
  unfold spec_piIs.f
  by_cases h200 : s.size ≤ 200
  · rw [if_neg (by omega)]
    simp only [spec_piIs.j0]
    by_cases he : s.size = 0
    · have hl : s.data.toList = [] := List.eq_nil_of_length_eq_zero (by rw [← Lib.size_eq]; exact he)
      have hz : (shCells 0 (shRows s)).length = 0 := by rw [cells_count, hl]; rfl
      rw [Lib.toList_data, hl, if_pos (by rfl)]
      cases v with
      | false => rfl
      | true => have := (hv1 rfl).1; omega
    · rw [Lib.toList_data, if_neg (by
        intro h
        have := beq_iff_eq.1 h
        rw [Lib.size_eq, this] at he
        exact he rfl)]
      have hpos := rows_pos s
      rw [split_f s (by omega) k (by omega), Option.bind_some, if_pos (by omega)]
      have hw0 : (rdOf ByteArray.empty (shPs s) 0).size = shW s := rfl
      rw [hw0]
      by_cases hw : shW s = 0
      · rw [if_pos (by omega)]
        cases v with
        | false => rfl
        | true =>
          exfalso
          obtain ⟨⟨h1, _⟩, hg⟩ := hv1 rfl
          obtain ⟨p, hp⟩ := List.exists_mem_of_length_pos (show 0 < (shCells 0 (shRows s)).length by omega)
          obtain ⟨j, r, i, hj, hi, _⟩ := (cell_mem s p).1 hp
          have := (List.getElem?_eq_some_iff.1 hi).1
          rw [← Lib.size_eq, ((good_all (shW s)).1 hg).1 r (List.mem_of_getElem? hj)] at this
          omega
      · rw [if_neg (by omega)]
        have hwle : shW s ≤ 200 := by
          have hm : rdOf ByteArray.empty (shPs s) 0 ∈ shPs s := by
            unfold rdOf
            rw [List.getD_eq_getElem?_getD, List.getElem?_eq_getElem (show (0 : Int).toNat < (shPs s).length from hpos)]
            exact List.getElem_mem _
          have := shPs_size s _ hm
          rw [hw0] at this
          omega
        have hple : (shPs s).length ≤ 201 := by
          have h1 := Lib.countB_le (⟨#[47]⟩ : ByteArray) (by decide) s.size s (Nat.le_refl _)
          have h2 := (sh_len s hs).1
          omega
        have hcl : (shCells 0 ((shPs s).map (·.data.toList))).length ≤ 100000 := by
          rw [sh_total s]
          have := List.count_le_length (l := s.data.toList) (a := (111 : UInt8))
          rw [← Lib.size_eq] at this
          unfold Lib.countByte
          omega
        have hfin : (∀ r ∈ shPs s, goodRow (shW s) r = true) → ∀ K', 100000 ≤ K' → piFin K' s (shW s) ((shC (shPs s) (shPs s).length).map (enc (shW s))) = some v := by
          intro hg K' hK'
          have hga : (shPs s).all (goodRow (shW s)) = true := List.all_eq_true.2 hg
          obtain ⟨hr, hb⟩ := (good_all (shW s)).1 hga
          have eC : shC (shPs s) (shPs s).length = shCells 0 (shRows s) := by unfold shC shRows; rw [List.take_of_length_le (by rw [List.length_map]; exact Nat.le_refl _)]
          rw [eC]
          unfold piFin
          rw [spec_l1In_f, Option.bind_some, List.length_map]
          obtain ⟨K', rfl⟩ : ∃ m, K' = m + 1 := ⟨K' - 1, by omega⟩
          by_cases hc : 1 ≤ (shCells 0 (shRows s)).length ∧ (shCells 0 (shRows s)).length ≤ 12
          · rw [if_pos (by rw [Bool.and_eq_true, decide_eq_true_eq, decide_eq_true_eq]; omega)]
            obtain ⟨t, ht, hti⟩ := text_eq s hs hr hb h200 (by omega) hc.1 hc.2 (K' + 1) (by omega)
            rw [ht, Option.bind_some, B8_toList, Lib.toList_data]
            obtain ⟨a, M, ha, hM, rfl⟩ := hv2 hc hga
            simp only [spec_piIs.j3]
            cases hside : (shLf (shCells 0 (shRows s)) && shTp (shCells 0 (shRows s)) && shRt (shW s) (shCells 0 (shRows s)) && shBt ((shPs s).length : Int) (shCells 0 (shRows s))) with
            | false =>
              have hne : (t != s.data.toList) = true := by
                rw [bne_iff_ne]
                intro e
                have := hti.1 e
                rw [hside] at this
                cases this
              rw [if_pos hne, Bool.false_and]
            | true =>
              have he' : (t != s.data.toList) = false := by rw [bne_eq_false_iff_eq]; exact hti.2 hside
              rw [he', if_neg (by decide), if_pos (by rw [List.length_map]; omega), Bool.true_and]
              have hr0 : rd ((shCells 0 (shRows s)).map (enc (shW s))) 0 = enc (shW s) a := by
                unfold rd
                rw [List.getD_eq_getElem?_getD, List.getElem?_map, show (0 : Int).toNat = 0 from rfl, ha]; rfl
              have hin := cells_in s hs hr
              have ham := List.mem_of_getElem? ha
              obtain ⟨M2, h2, hM2⟩ := is_l2 (w := shW s) (by omega) (by omega) (cs := (shCells 0 (shRows s)).map (enc (shW s))) (by rw [List.length_map]; omega) (fun x hx => by
                obtain ⟨p, hp, rfl⟩ := List.mem_map.1 hx
                obtain ⟨⟨p0, pw, p1, _⟩, ph⟩ := hin p hp
                have hm : 0 ≤ p.f1 * (shW s : Int) := Int.mul_nonneg p1 (by omega)
                have hm2 : p.f1 * (shW s : Int) ≤ 201 * 200 := Int.mul_le_mul (by omega) (by omega) (by omega) (by omega)
                unfold enc
                omega) (a0 := enc (shW s) a) ((shCells 0 (shRows s)).length + 1) 0 K' [enc (shW s) a] (Clo.one (List.mem_map.2 ⟨a, ham, rfl⟩)) (by simp) (by rw [List.length_map]; omega) (by
                have : (((shCells 0 (shRows s)).map (enc (shW s))).length + 3) * ((shCells 0 (shRows s)).length + 1) ≤ 15 * 13 := Nat.mul_le_mul (by rw [List.length_map]; omega) (by omega)
                omega)
              rw [hr0]
              rw [show ((0 : Nat) : Int) = 0 from rfl] at h2
              rw [h2]
              have hlen := clo_len (enc (shW s)) (fun x hx y hy e => enc_inj (hin x hx).1.1 (hin x hx).1.2.1 (hin y hy).1.1 (hin y hy).1.2.1 e) (fun x hx y hy => nx_adj (hin x hx).1.1 (hin x hx).1.2.1 (hin x hx).1.2.2.1 (hin y hy).1.1 (hin y hy).1.2.1 (hin y hy).1.2.2.1) hM hM2
              rw [← hlen, List.length_map]
              congr 1
              rw [Bool.eq_iff_iff, beq_iff_eq, beq_iff_eq]
              omega
          · rw [if_neg (by rw [Bool.and_eq_true, decide_eq_true_eq, decide_eq_true_eq]; omega)]
            simp only [spec_piIs.j3]
            rw [if_pos trivial]
            cases v with
            | false => rfl
            | true => exact absurd (hv1 rfl).1 hc
        have := is_l0 (w := shW s) (s := s) (ps := shPs s) (by omega) (by omega) hcl 100000 v hfin (shPs s).length 0 k (by omega) (by
          have : (shW s + 2) * (shPs s).length ≤ 202 * 201 := Nat.mul_le_mul (by omega) hple
          omega) (fun j r hj => absurd hj (Nat.not_lt_zero _))
        have e0 : (shC (shPs s) 0).map (enc (shW s)) = [] := by unfold shC; rfl
        rw [e0, show ((0 : Nat) : Int) = 0 from rfl] at this
        rw [this]
        by_cases hg : (shPs s).all (goodRow (shW s)) = true
        · rw [if_pos hg]
        · rw [if_neg hg]
          cases v with
          | false => rfl
          | true => exact absurd (hv1 rfl).2 hg
  · rw [if_pos (by omega)]
    simp only [spec_piIs.j0]
    rw [if_pos trivial]
    cases v with
    | false => rfl
    | true =>
      exfalso
      obtain ⟨hc, hg⟩ := hv1 rfl
      obtain ⟨a, M, ha, hM, he⟩ := hv2 hc hg
      have he := he.symm
      simp only [Bool.and_eq_true, beq_iff_eq] at he
      obtain ⟨⟨⟨⟨e0, e1⟩, e2⟩, e3⟩, e4⟩ := he
      exact h200 (short s hs ((good_all (shW s)).1 hg).1 hM e4 hc.2 e0 e1 e2 e3)

/-! The two turned texts are the same. -/
theorem te_ext {a b : ByteArray} (h : a.data.toList = b.data.toList) : a = b := by
  apply ByteArray.ext
  exact Array.toList_inj.1 h
theorem te_extract (q : ByteArray) (x : Nat) (hx : x < q.size) : (q.extract x (x + 1)).data.toList = (strOfNums [bt q (x : Int)]).data.toList := by
  have hx' : x < q.data.toList.length := by rw [← Lib.size_eq]; exact hx
  obtain ⟨b, hb, hbt⟩ := bt_get q x hx
  obtain ⟨h1, h2⟩ := List.getElem?_eq_some_iff.1 hb
  rw [hbt, ByteArray.data_extract, Array.toList_extract, List.extract_eq_take_drop, List.drop_eq_getElem_cons hx', h2]
  have e : x + 1 - x = 1 := by omega
  rw [e]
  simp [strOfNums]
theorem te_nums (a b : List Int) : (strOfNums (a ++ b)).data.toList = (strOfNums a).data.toList ++ (strOfNums b).data.toList := by simp [strOfNums]
theorem te_col (ps : List ByteArray) (w x : Nat) (hr : ∀ r ∈ ps, r.size = w) (hx : x < w) : ∀ n a, n ≤ ps.length → (ptCol ps x n a).data.toList = a.data.toList ++ (strOfNums ((ps.take n).reverse.map fun r => bt r (x : Int))).data.toList
  | 0, a, _ => by simp [ptCol, strOfNums]
  | n + 1, a, h => by
    have hn : n < ps.length := by omega
    have e : rdOf ByteArray.empty ps (n : Int) = ps[n] := by simp [rdOf, hn]
    have hs : ps[n].size = w := hr _ (List.getElem_mem hn)
    rw [ptCol, te_col ps w x hr hx n _ (by omega), e, ByteArray.data_append, Array.toList_append, te_extract _ _ (by omega), List.take_succ_eq_append_getElem hn, List.reverse_append, List.map_append, te_nums]
    simp
theorem te_joinTail (r : List (List UInt8)) (y : List UInt8) : Lib.joinTail [47] (r ++ [y]) = Lib.joinTail [47] r ++ (47 :: y) := by
  simp [Lib.joinTail]
theorem te_join (xs : List (List UInt8)) (y : List UInt8) (h : xs ≠ []) : Lib.join (xs ++ [y]) [47] = Lib.join xs [47] ++ (47 :: y) := by
  cases xs with
  | nil => exact absurd rfl h
  | cons x r => rw [List.cons_append, Lib.join_cons, Lib.join_cons, te_joinTail, List.append_assoc]
theorem te_acc (ps : List ByteArray) (w : Nat) (hr : ∀ r ∈ ps, r.size = w) : ∀ x, x ≤ w → (ptAcc ps x).data.toList = Lib.join ((tnRows ps x).map (·.data.toList)) [47]
  | 0, _ => by simp [ptAcc, tnRows, Lib.join_nil]
  | x + 1, h => by
    have ih := te_acc ps w hr x (by omega)
    have hcol := te_col ps w x hr (by omega) ps.length (if 0 < x then ptAcc ps x ++ ⟨#[47]⟩ else ptAcc ps x) (Nat.le_refl _)
    rw [List.take_length] at hcol
    have hrow : (ps.reverse.map fun r => bt r (x : Int)) = tnRow ps x := rfl
    rw [ptAcc, hcol, hrow, show tnRows ps (x + 1) = tnRows ps x ++ [strOfNums (tnRow ps x)] by simp [tnRows, List.range_succ], List.map_append, List.map_cons, List.map_nil]
    by_cases c : 0 < x
    · rw [if_pos c, te_join _ _ (by simp [tnRows]; omega), ByteArray.data_append, Array.toList_append, ih, List.append_assoc]
      rfl
    · obtain rfl : x = 0 := by omega
      rw [if_neg c, ih]
      simp [tnRows, Lib.join_nil, Lib.join_cons, Lib.joinTail]
theorem te_eq (ps : List ByteArray) (w : Nat) (hr : ∀ r ∈ ps, r.size = w) : ptAcc ps w = tnJoin (tnRows ps w) := te_ext (by rw [te_acc ps w hr w (Nat.le_refl _)]; simp [tnJoin])

/-! Where a text is a shape's. -/
theorem shape_good (s : ByteArray) (hs : s.size ≤ 1000000) (k : Nat) (hk : 150000 ≤ k) : ∃ v, spec_piIs.f k s = some v ∧ impl_IsShapeText.f k s = some v ∧ (v = true → (∀ r ∈ shPs s, r.size = shW s) ∧ (∀ r ∈ shPs s, ∀ b ∈ r.data.toList, b = 111 ∨ b = 46) ∧ 1 ≤ shW s ∧ s.size ≤ 200) := by
  obtain ⟨v, hv, hv1, hv2⟩ := impl_shape s hs k (by omega)
  obtain ⟨v', h1, h2⟩ := IsShapeText_pure s hs k hk
  rw [hv] at h2
  obtain rfl := Option.some.inj h2
  unfold spec_IsShapeText.f at h1
  obtain ⟨v', h3, h4⟩ := Option.bind_eq_some_iff.mp h1
  obtain rfl := Option.some.inj h4
  refine ⟨v', h3, hv, fun ht => ?_⟩
  subst ht
  obtain ⟨hc, hg⟩ := hv1 rfl
  obtain ⟨g1, g2⟩ := (good_all (shW s)).1 hg
  obtain ⟨a, M, ha, hM, he⟩ := hv2 hc hg
  have he := he.symm
  simp only [Bool.and_eq_true, beq_iff_eq] at he
  obtain ⟨⟨⟨⟨e0, e1⟩, e2⟩, e3⟩, e4⟩ := he
  refine ⟨g1, g2, ?_, short s hs g1 hM e4 hc.2 e0 e1 e2 e3⟩
  obtain ⟨p, hp⟩ := List.exists_mem_of_length_pos (show 0 < (shCells 0 (shRows s)).length by omega)
  obtain ⟨j, r, i, hj, hi, _⟩ := (cell_mem s p).1 hp
  have := (List.getElem?_eq_some_iff.1 hi).1
  rw [← Lib.size_eq, g1 r (List.mem_of_getElem? hj)] at this
  omega
theorem row0_mem (s : ByteArray) : rdOf ByteArray.empty (shPs s) 0 ∈ shPs s := by
  unfold rdOf
  rw [List.getD_eq_getElem?_getD, List.getElem?_eq_getElem (show (0 : Int).toNat < (shPs s).length from rows_pos s)]
  exact List.getElem_mem _
theorem turn_pure (s : ByteArray) (hs : s.size ≤ 1000) (k : Nat) (hk : 1010 ≤ k) (h1 : ∀ r ∈ shPs s, r.size = shW s) (h2 : ∀ r ∈ shPs s, ∀ b ∈ r.data.toList, b = 111 ∨ b = 46) (h3 : 1 ≤ shW s) :
    spec_piTurn.f k s = some (tnJoin (tnRows (shPs s) (shW s))) ∧ impl_turnedShape.f s = some (tnJoin (tnRows (shPs s) (shW s))) := by
  have hm := row0_mem s
  have hw := shPs_size s _ hm
  constructor
  · unfold spec_piTurn.f
    rw [split_f s hs k hk, Option.bind_some]
    unfold ptF
    rw [if_pos ⟨⟨rows_pos s, (sh_len s (by omega)).2⟩, h1, by omega, fun b hb => by rcases h2 _ hm b hb with rfl | rfl <;> decide⟩]
    exact congrArg some (te_eq (shPs s) (shW s) h1)
  · unfold impl_turnedShape.f
    rw [if_pos ⟨by omega, h1, h3⟩]

/-! The first of texts, and the eight that turning and mirroring make. -/
theorem ls_total (a b : List UInt8) : a ≤ b ∨ b ≤ a := List.le_total a b
theorem ls_trans {a b c : List UInt8} (h1 : a ≤ b) (h2 : b ≤ c) : a ≤ c := List.le_trans h1 h2
theorem ls_anti {a b : List UInt8} (h1 : a ≤ b) (h2 : b ≤ a) : a = b := Std.le_antisymm h1 h2
theorem ls_lt {a b : List UInt8} : a < b ↔ ¬ b ≤ a := List.not_le.symm
theorem ms_spec (x y : ByteArray) : (Lib.minS x y = x ∨ Lib.minS x y = y) ∧ (Lib.minS x y).data.toList ≤ x.data.toList ∧ (Lib.minS x y).data.toList ≤ y.data.toList := by
  unfold Lib.minS
  have rf : ∀ l : List UInt8, l ≤ l := fun l => by rcases ls_total l l with h | h <;> exact h
  split
  · rename_i h
    refine ⟨.inl rfl, rf _, ?_⟩
    rcases h with h | h
    · rcases ls_total x.data.toList y.data.toList with h' | h'
      · exact h'
      · exact absurd h' (ls_lt.1 h)
    · rw [h]; exact rf _
  · rename_i h
    refine ⟨.inr rfl, ?_, rf _⟩
    rcases ls_total x.data.toList y.data.toList with h' | h'
    · exfalso
      by_cases e : y.data.toList ≤ x.data.toList
      · exact h (.inr (ls_anti h' e))
      · exact h (.inl (ls_lt.2 e))
    · exact h'
theorem ms_assoc (b x m : ByteArray) : Lib.minS (Lib.minS b x) m = Lib.minS b (Lib.minS x m) := by
  obtain ⟨p1, p2, p3⟩ := ms_spec (Lib.minS b x) m
  obtain ⟨q1, q2, q3⟩ := ms_spec b x
  obtain ⟨r1, r2, r3⟩ := ms_spec b (Lib.minS x m)
  obtain ⟨s1, s2, s3⟩ := ms_spec x m
  generalize hP : Lib.minS (Lib.minS b x) m = P at *
  generalize hQ : Lib.minS b (Lib.minS x m) = Q at *
  have pb := ls_trans p2 q2
  have px := ls_trans p2 q3
  have qx := ls_trans r3 s2
  have qm := ls_trans r3 s3
  refine te_ext (ls_anti ?_ ?_)
  · rcases r1 with e | e
    · rw [e]; exact pb
    · rcases s1 with e' | e'
      · rw [e, e']; exact px
      · rw [e, e']; exact p3
  · rcases p1 with e | e
    · rcases q1 with e' | e'
      · rw [e, e']; exact r2
      · rw [e, e']; exact qx
    · rw [e]; exact qm
theorem ms_self (x : ByteArray) : Lib.minS x x = x := by rcases (ms_spec x x).1 with h | h <;> exact h
theorem pm_eq (a b : ByteArray) : spec_piMin.f a b = some (Lib.minS a b) := by
  unfold spec_piMin.f Lib.minS
  rw [Go.Proofs.bytesLess_eq, Lib.toList_data, Lib.toList_data]
  by_cases h : b.data.toList < a.data.toList
  · rw [if_pos (decide_eq_true h), if_neg]
    rintro (h' | h')
    · exact List.lt_irrefl _ (List.lt_trans h h')
    · rw [h'] at h; exact List.lt_irrefl _ h
  · rw [if_neg (by simpa using h), if_pos]
    have h1 : a.data.toList ≤ b.data.toList := List.not_lt.1 h
    by_cases e : b.data.toList ≤ a.data.toList
    · exact .inr (ls_anti h1 e)
    · exact .inl (ls_lt.2 e)
/-- one byte of a row -/
theorem ex1 (q : ByteArray) (x : Nat) (hx : x < q.data.toList.length) : q.extract x (x + 1) = B8 [q.data.toList[x]] := by
  apply te_ext
  rw [ByteArray.data_extract, Array.toList_extract, List.extract_eq_take_drop, List.drop_eq_getElem_cons hx, show x + 1 - x = 1 by omega]
  simp [B8]
section
variable (ps : List ByteArray) (w : Nat) (hr : ∀ r ∈ ps, r.size = w) (hw : w ≤ 1000) (hl : ps.length ≤ 1000)
include hw
theorem mi_l1 (r : ByteArray) (hrw : r.size = w) (n i : Int) : ∀ (j k : Nat) (acc : List UInt8), j ≤ w → acc.length + j ≤ 1000000 →
    spec_piMirror.l1 (k + j + 1) (B8 acc) r ((j : Int) - 1) ps n i = spec_piMirror.l0 k (B8 (acc ++ (r.data.toList.take j).reverse)) ps n (wrap64 (i + 1))
  | 0, k, acc, _, _ => by
    simp only [spec_piMirror.l1]
    rw [if_neg (by omega), List.take_zero, List.reverse_nil, List.append_nil]
  | j + 1, k, acc, hj, ha => by
    have hs : j < r.data.toList.length := by rw [← Lib.size_eq]; omega
    have e1 : (((j + 1 : Nat) : Int) - 1) = (j : Int) := by omega
    have e2 : wrap64 ((j : Int) + 1) = ((j + 1 : Nat) : Int) := wa1 (by omega)
    have e3 : wrap64 ((j : Int) - 1) = (j : Int) - 1 := w64 _ (by omega) (by omega)
    have ih := mi_l1 r hrw n i j k (acc ++ [r.data.toList[j]]) (by omega) (by rw [List.length_append, List.length_singleton]; omega)
    rw [show k + (j + 1) + 1 = (k + j + 1) + 1 by omega, e1]
    generalize k + j + 1 = m at ih ⊢
    simp only [spec_piMirror.l1]
    rw [if_pos (by omega), if_pos (by omega), e2, if_pos (by omega), if_pos (by omega), Int.toNat_natCast, Int.toNat_natCast, ex1 r j hs, if_pos (by rw [B8_size, B8_size]; simp; omega), B8_app, e3, ih, List.take_succ_eq_append_getElem hs, List.reverse_append]
    simp
def jm (i : Nat) : List UInt8 := Lib.join (((ps.take i).map mlRow).map (·.data.toList)) [47]
include hr hl
theorem mi_l0 : ∀ (d i k : Nat), i + d = ps.length → (w + 4) * d + 1 ≤ k → (jm ps i).length + (w + 1) * d ≤ 1000000 → spec_piMirror.l0 k (B8 (jm ps i)) ps (ps.length : Int) (i : Int) = some (B8 (jm ps ps.length))
  | 0, i, k, hi, hk, _ => by
    obtain ⟨k, rfl⟩ : ∃ m, k = m + 1 := ⟨k - 1, by omega⟩
    obtain rfl : i = ps.length := by omega
    simp only [spec_piMirror.l0]
    rw [if_neg (by omega)]
  | d + 1, i, k, hi, hk, ha => by
    have e1 : (w + 4) * (d + 1) = (w + 4) * d + w + 4 := by rw [Nat.mul_succ]; omega
    have e2 : (w + 1) * (d + 1) = (w + 1) * d + w + 1 := by rw [Nat.mul_succ]; omega
    have hil : i < ps.length := by omega
    have hrd : rdOf ByteArray.empty ps (i : Int) = ps[i] := by simp [rdOf, hil]
    have hs := hr _ (List.getElem_mem hil)
    have hjm : jm ps (i + 1) = (if 0 < i then jm ps i ++ [47] else jm ps i) ++ ps[i].data.toList.reverse := by
      unfold jm
      rw [List.take_succ_eq_append_getElem hil, List.map_append, List.map_append]
      by_cases c : 0 < i
      · rw [if_pos c, List.map_cons, List.map_cons, List.map_nil, List.map_nil, te_join _ _ (List.ne_nil_of_length_pos (by rw [List.length_map, List.length_map, List.length_take]; omega))]
        simp [mlRow]
      · obtain rfl : i = 0 := by omega
        rw [if_neg c]
        simp [Lib.join_nil, Lib.join_cons, Lib.joinTail, mlRow]
    have hlen : ps[i].data.toList.length = w := by rw [← Lib.size_eq]; exact hs
    have hbody : ∀ acc : List UInt8, acc.length ≤ (jm ps i).length + 1 → acc ++ ps[i].data.toList.reverse = jm ps (i + 1) → ∀ m, m = k - 1 → spec_piMirror.j1 m (B8 acc) ps[i] ps (ps.length : Int) (i : Int) = some (B8 (jm ps ps.length)) := by
      rintro acc h1 h2 m rfl
      obtain ⟨k', rfl⟩ : ∃ m, k = m + w + 3 := ⟨k - w - 3, by omega⟩
      rw [show k' + w + 3 - 1 = (k' + w + 1) + 1 by omega]
      simp only [spec_piMirror.j1]
      have hl1 := mi_l1 ps w hw ps[i] hs (ps.length : Int) (i : Int) w k' acc (Nat.le_refl _) (by omega)
      rw [hs, w64 _ (by omega) (by omega), hl1, List.take_of_length_le (by omega), h2, wa1 (by omega)]
      have h3 := congrArg List.length h2
      rw [List.length_append, List.length_reverse, hlen] at h3
      exact mi_l0 d (i + 1) k' (by omega) (by omega) (by omega)
    obtain ⟨k, rfl⟩ : ∃ m, k = m + 1 := ⟨k - 1, by omega⟩
    simp only [spec_piMirror.l0]
    rw [if_pos (by omega), if_pos (by omega), if_pos (by omega), hrd]
    by_cases c : 0 < i
    · rw [if_pos (by omega), if_pos (by rw [B8_size]; omega), show (⟨#[47]⟩ : ByteArray) = B8 [47] from rfl, B8_app]
      exact hbody _ (by rw [List.length_append, List.length_singleton]; omega) (by rw [hjm, if_pos c]) k (by omega)
    · rw [if_neg (by omega)]
      exact hbody _ (by omega) (by rw [hjm, if_neg c]) k (by omega)
theorem mi_all (k : Nat) (hk : (w + 4) * ps.length + 1 ≤ k) (ha : (w + 1) * ps.length ≤ 1000000) : spec_piMirror.l0 k (⟨#[]⟩ : ByteArray) ps (ps.length : Int) 0 = some (mlJoin ps) := by
  have h0 : jm ps 0 = [] := by simp [jm, Lib.join_nil]
  have := mi_l0 ps w hr hw hl ps.length 0 k (by omega) hk (by rw [h0]; simpa using ha)
  rw [h0] at this
  have e : B8 (jm ps ps.length) = mlJoin ps := by
    unfold jm mlJoin tnJoin B8
    rw [List.take_length]
  rw [e] at this
  exact this
end

/-! LeastShape: both programs tell the same. -/
structure ShT (s : ByteArray) : Prop where
  rows : ∀ r ∈ shPs s, r.size = shW s
  bytes : ∀ r ∈ shPs s, ∀ b ∈ r.data.toList, b = 111 ∨ b = 46
  wide : 1 ≤ shW s
  area : shW s * (shPs s).length ≤ 201
theorem spl_join : ∀ rs : List (List UInt8), rs ≠ [] → (∀ r ∈ rs, ∀ b ∈ r, b ≠ 47) → spl (Lib.join rs [47]) = rs
  | [], h, _ => absurd rfl h
  | [r], _, h => by
    rw [Lib.join_cons, show Lib.joinTail [47] ([] : List (List UInt8)) = [] from rfl, List.append_nil]
    exact spl_only r (h r List.mem_cons_self)
  | r :: r' :: rs, _, h => by
    have e : Lib.join (r :: r' :: rs) [47] = r ++ 47 :: Lib.join (r' :: rs) [47] := by simp [Lib.join_cons, Lib.joinTail]
    rw [e, spl_pre r _ (h r List.mem_cons_self), spl_join (r' :: rs) (by simp) (fun q hq => h q (List.mem_cons_of_mem _ hq))]
theorem tnJoin_list (xs : List ByteArray) : (tnJoin xs).data.toList = Lib.join (xs.map (·.data.toList)) [47] := by simp [tnJoin]
theorem shPs_join (xs : List ByteArray) (hne : xs ≠ []) (hb : ∀ r ∈ xs, ∀ b ∈ r.data.toList, b ≠ 47) : shPs (tnJoin xs) = xs := by
  apply ba_ext
  have h := shRows_spl (tnJoin xs)
  unfold shRows at h
  rw [h, tnJoin_list]
  refine spl_join _ (by simpa using hne) ?_
  intro r hr b hbr
  obtain ⟨q, hq, rfl⟩ := List.mem_map.1 hr
  exact hb q hq b hbr
theorem nums_size (l : List Int) : (strOfNums l).size = l.length := by rw [Lib.size_eq]; simp [strOfNums]
theorem tr_bytes (ps : List ByteArray) (w x : Nat) (hr : ∀ r ∈ ps, r.size = w) (hb : ∀ r ∈ ps, ∀ b ∈ r.data.toList, b = 111 ∨ b = 46) (hx : x < w) : ∀ b ∈ (strOfNums (tnRow ps x)).data.toList, b = 111 ∨ b = 46 := by
  intro b hbm
  simp only [strOfNums, tnRow, List.map_map, List.mem_map, Function.comp] at hbm
  obtain ⟨q, hq, rfl⟩ := hbm
  have hq' : q ∈ ps := List.mem_reverse.1 hq
  obtain ⟨c, hc, hbt⟩ := bt_get q x (by rw [hr q hq']; exact hx)
  rw [hbt, Int.toNat_natCast]
  have := hb q hq' c (List.mem_of_getElem? hc)
  simpa using this
theorem ShT.turn {s : ByteArray} (h : ShT s) : ShT (tnJoin (tnRows (shPs s) (shW s))) := by
  have hpos := rows_pos s
  have hm : ∀ r ∈ tnRows (shPs s) (shW s), r.size = (shPs s).length ∧ ∀ b ∈ r.data.toList, b = 111 ∨ b = 46 := by
    intro r hr
    obtain ⟨x, hx, rfl⟩ := List.mem_map.1 hr
    exact ⟨by rw [nums_size, tnRow_len], tr_bytes (shPs s) (shW s) x h.rows h.bytes (List.mem_range.1 hx)⟩
  have hl : (tnRows (shPs s) (shW s)).length = shW s := by simp [tnRows]
  have hw := h.wide
  have e := shPs_join (tnRows (shPs s) (shW s)) (List.ne_nil_of_length_pos (by omega)) (fun r hr b hb => by rcases (hm r hr).2 b hb with rfl | rfl <;> decide)
  have ew : shW (tnJoin (tnRows (shPs s) (shW s))) = (shPs s).length := by
    have e0 : ∀ u : ByteArray, shW u = (rdOf ByteArray.empty (shPs u) 0).size := fun _ => rfl
    rw [e0, e]
    refine (hm _ ?_).1
    exact rdOf_mem _ 0 (by omega)
  refine ⟨?_, ?_, ?_, ?_⟩
  · rw [e, ew]; exact fun r hr => (hm r hr).1
  · rw [e]; exact fun r hr => (hm r hr).2
  · rw [ew]; exact hpos
  · rw [e, ew, hl, Nat.mul_comm]; exact h.area
theorem ShT.bounds {s : ByteArray} (h : ShT s) : shW s ≤ 201 ∧ (shPs s).length ≤ 201 ∧ s.size ≤ 402 := by
  have hpos := rows_pos s
  have h1 := h.area
  have h2 := h.wide
  have h3 : shW s * 1 ≤ shW s * (shPs s).length := Nat.mul_le_mul_left _ hpos
  have h4 : 1 * (shPs s).length ≤ shW s * (shPs s).length := Nat.mul_le_mul_right _ h2
  have h5 := size_rows s h.rows
  rw [Nat.succ_mul] at h5
  omega
theorem ShT.steps {s : ByteArray} (h : ShT s) (k : Nat) (hk : 2500 ≤ k) :
    spec_piMirror.f k s = some (mlJoin (shPs s)) ∧ impl_mirroredShape.f s = some (mlJoin (shPs s)) ∧ spec_piTurn.f k s = some (tnJoin (tnRows (shPs s) (shW s))) ∧ impl_turnedShape.f s = some (tnJoin (tnRows (shPs s) (shW s))) := by
  obtain ⟨b1, b2, b3⟩ := h.bounds
  obtain ⟨t1, t2⟩ := turn_pure s (by omega) k (by omega) h.rows h.bytes h.wide
  have ha := h.area
  refine ⟨?_, ?_, t1, t2⟩
  · unfold spec_piMirror.f
    rw [split_f s (by omega) k (by omega), Option.bind_some]
    refine mi_all (shPs s) (shW s) h.rows (by omega) (by omega) k ?_ ?_
    · rw [Nat.add_mul]; omega
    · rw [Nat.add_mul]; omega
  · unfold impl_mirroredShape.f
    rw [if_pos (by omega)]
theorem least_fold : ∀ (n i : Nat) (y best : ByteArray) (k : Nat), n + i = 4 → ShT y → 3000 + n ≤ k → ∃ L, e8s n y = some L ∧ spec_piLeast.l0 k y best (i : Int) = some (L.foldl Lib.minS best) ∧ (0 < n → ∃ r, L = y :: r)
  | 0, i, y, best, k, hi, h, hk => by
    obtain ⟨k, rfl⟩ : ∃ m, k = m + 1 := ⟨k - 1, by omega⟩
    refine ⟨[], rfl, ?_, fun h => absurd h (by omega)⟩
    simp only [spec_piLeast.l0]
    rw [if_neg (by omega)]
    rfl
  | n + 1, i, y, best, k, hi, h, hk => by
    obtain ⟨k, rfl⟩ : ∃ m, k = m + 1 := ⟨k - 1, by omega⟩
    obtain ⟨e1, e2, e3, e4⟩ := h.steps k (by omega)
    obtain ⟨L, f1, f2, _⟩ := least_fold n (i + 1) _ (Lib.minS best (Lib.minS y (mlJoin (shPs y)))) k (by omega) h.turn (by omega)
    refine ⟨_, by simp only [e8s]; rw [e2, Option.bind_some, e4, Option.bind_some, f1, Option.bind_some], ?_, fun _ => ⟨_, rfl⟩⟩
    simp only [spec_piLeast.l0]
    rw [if_pos (by omega), e1, Option.bind_some, pm_eq, Option.bind_some, pm_eq, Option.bind_some, e3, Option.bind_some, wa1 (by omega), f2, List.foldl_cons, List.foldl_cons, ms_assoc]
theorem least_pure (s : ByteArray) (h : ShT s) (k : Nat) (hk : 3010 ≤ k) : ∃ r, spec_piLeast.f k s = some r ∧ impl_leastShape.f s = some r := by
  obtain ⟨L, f1, f2, f3⟩ := least_fold 4 0 s s k (by omega) h (by omega)
  obtain ⟨r, rfl⟩ := f3 (by omega)
  refine ⟨_, f2, ?_⟩
  unfold impl_leastShape.f
  rw [f1, Option.bind_some]
  rfl
theorem ShT.of {s : ByteArray} (h1 : ∀ r ∈ shPs s, r.size = shW s) (h2 : ∀ r ∈ shPs s, ∀ b ∈ r.data.toList, b = 111 ∨ b = 46) (h3 : 1 ≤ shW s) (h4 : s.size ≤ 200) : ShT s := by
  have h5 := size_rows s h1
  rw [Nat.succ_mul] at h5
  exact ⟨h1, h2, h3, by omega⟩
theorem LeastShape_pure (s : ByteArray) (hs : s.size ≤ 1000000) (k : Nat) (hk : 150000 ≤ k) : ∃ o, spec_LeastShape.f k s = some o ∧ impl_LeastShape.f k s = some o := by
  obtain ⟨v, h1, h2, h3⟩ := shape_good s hs k hk
  unfold spec_LeastShape.f impl_LeastShape.f
  rw [h1, h2, Option.bind_some, Option.bind_some]
  cases v with
  | false => exact ⟨_, rfl, rfl⟩
  | true =>
    obtain ⟨g1, g2, g3, g4⟩ := h3 rfl
    obtain ⟨r, e1, e2⟩ := least_pure s (ShT.of g1 g2 g3 g4) k (by omega)
    rw [e1, e2]
    exact ⟨_, rfl, rfl⟩

theorem LeastShape_law (s : ByteArray) : laws_FnExactLeastShape.f 150000 s = some true := by
  unfold laws_FnExactLeastShape.f
  by_cases h : (s.size : Int) > 1000000
  · rw [if_pos h]
  · rw [if_neg h]
    obtain ⟨v, h1, h2⟩ := LeastShape_pure s (by omega) 150000 (Nat.le_refl _)
    rw [h1, Option.bind_some, h2, Option.bind_some, if_pos rfl, if_neg (by simp)]

/-! The tables that the row lists, and a start that fits. -/
abbrev LAID : List (String × DataW Unit) := [("unicode/utf8.acceptRanges", Rows.laid_unicode_utf8_acceptRanges), ("unicode/utf8.first", Rows.laid_unicode_utf8_first)]
theorem tz_of_shape {W : World} (h : W.ShapedOpen Tryd.prog) : TzTab W :=
  Go.Proofs.cell_of_shapedOpen_int (zero := #[.int .i64 0]) (t := 3) h (of_decide_eq_true (by kernel_rfl)) (by kernel_rfl) rfl (by kernel_rfl) (by kernel_rfl) Tryd.underlying3
def litOne : DataW Unit → List Value
  | .lit (.int k n) => [Value.int k n]
  | _ => []
def litVals : DataW Unit → Array Value
  | .agg l => (l.flatMap fun d => match d with
    | .agg m => m.flatMap litOne
    | x => litOne x).toArray
  | _ => #[]
def putVals (d : DataW Unit) : Obj → Obj
  | .cells _ t frozen => .cells (litVals d) t frozen
  | o => o
noncomputable def laidWorld (os : Os) : World :=
  { World.holding Tryd.prog os ⟨#[], #[], []⟩ with heap := ((World.holding Tryd.prog os ⟨#[], #[], []⟩).heap.modify 2 (putVals Rows.laid_unicode_utf8_acceptRanges)).modify 1 (putVals Rows.laid_unicode_utf8_first) }
theorem laid_met (os : Os) (args : Array Value) : laidMet Tryd.prog LAID ((laidWorld os).forCall (fun _ _ => 0) ⟨#[], args, []⟩).memory :=
  (LaidIn.of_run [2, 1] 8 (by kernel_rfl) (by kernel_rfl) (by kernel_rfl) (by kernel_rfl)).met
theorem own : ownKnob Tryd.prog.godebug = none := by kernel_rfl
theorem laidOut : laidOutB Tryd.prog = true := by kernel_rfl

theorem LeastShape_call {W : World} (hT : TzTab W) (s0 : ByteArray) (ws0 : s0.size ≤ 140737488351232) :
    Calls Tryd.prog 5 #[.string s0] W fun e W' => e = .returned (.bool true) ∧ Below W.heap.size W W' :=
  laws_FnExactLeastShape.calls 150000 s0 true W hT (LeastShape_law s0)
set_option maxRecDepth 100000 in
theorem lifted (os : Os) (started : os.Started) (H : Type) (enc : TypeId × Value → H) (F : Stop.Interp) :
    ReturnsInHanded {} Tryd.checked os 5 .any ((OpenSpec.ofChange Rows.fnExactLeastShapeSpec).preRow enc Tryd.prog Tryd.f5 Rows.fnExactLeastShapeRow.domain false LAID) (((OpenSpec.ofChange Rows.fnExactLeastShapeSpec).at F).post enc Tryd.prog Tryd.f5 false true false false) := by
  refine returnsInHanded_of_row (C := Tryd.checked) (s := OpenSpec.ofChange Rows.fnExactLeastShapeSpec) own started (by kernel_rfl) Tryd.func5
    (witness_row_at (enc := enc) (C := Tryd.checked) false (laidWorld os) #[.string ByteArray.empty] rfl (by kernel_rfl) (by kernel_rfl) (by kernel_rfl)
      (OpenSpec.preRow_of_B rfl 8 (by kernel_rfl) (by kernel_rfl) (laid_met os _))) ?_
  intro W base args ds gs before hval0 hW _ _ hsz0 hL hsh _
  have hsz : (DataW.weightsEach Tryd.prog (Tryd.f5.params.toList ++ Rows.fnExactLeastShapeSpec.plain.varTypes Tryd.prog) (ds ++ gs)).all (· ≤ reachBytes) = true := hsz0
  have hval : ∀ (j : Nat) t v, Tryd.f5.params[j]? = some t → args[j]? = some v → Value.okWide Tryd.prog W .any base t v := hval0
  have hW' := hW
  obtain ⟨p, q, hA0, hV, rfl, hfz, hnd⟩ := hW
  have hA : DataW.TrodAll enc Tryd.prog W 0 (fun _ => true) true Tryd.f5.params.toList args.toList ds p := hA0
  rw [Tryd.params5] at hA hval hsz
  obtain ⟨v0, vs0, d0, ds0, p0, q0, hargs, rfl, rfl, h0, t0⟩ := trodAll_cons hA
  obtain ⟨rfl, rfl, rfl⟩ := trodAll_nil t0
  obtain rfl : args = #[v0] := by cases args; simp_all
  obtain ⟨rfl, rfl⟩ := trodVars_none hV
  obtain ⟨s0, rfl, rfl, rfl, y0⟩ := open_string Tryd.underlying9 (hval 0 9 v0 rfl rfl) h0
  have ws0 : s0.size ≤ 140737488351232 := by
    have z := sized_string hsz (j := 0) (t := 9) rfl rfl
    rw [Array.length_toList] at z
    exact z
  clear hA0 hval0 hsz0 hsz
  refine (LeastShape_call (tz_of_shape hsh) s0  ws0).mono fun e W' ⟨he, bel⟩ => ?_
  subst he
  exact ⟨_, rfl, _, _, _, [], _, [], hW', trodAll_mk1 (shut_bool Tryd.underlying4 _), (trodAll_cons_mk (shut_string Tryd.underlying9 y0) trodAll_mk0), rfl, bel.frame _, fun h => by cases h⟩
theorem over : Rows.fnExactLeastShapeRow.holds Tryd.pinned (OpenSpec.ofChange Rows.fnExactLeastShapeSpec) :=
  OpenClaim.holds_of_wide 5 Tryd.f5 rfl rfl rfl rfl rfl rfl rfl ⟨rfl, rfl, rfl, rfl, rfl⟩ rfl rfl rfl rfl rfl (by kernel_rfl) Tryd.func5 (by kernel_rfl)
    (of_decide_eq_true (by kernel_rfl)) (by unfold Func.isWrapper; first | (rw [if_pos (by decide +kernel)]; kernel_rfl) | (rw [if_neg (by decide +kernel)]; exact ⟨rfl, rfl⟩))
    (fun os started H enc _ => lifted os started H enc (fun _ _ _ => 0))
theorem proved : Rows.FnExactLeastShapeCardSaid :=
  Claim7.holds_tied_plain_at .later [] [.data, .pinned] true (true, "7acb72b89605b83a3a829b0a1b3267de01cf6e9a9e9f58503a4215a8e28491dc") false
    over (fun _ h => by cases h) (by kernel_rfl) (fun _ h => by cases h) fnExactLeastShape_row_tie rfl ⟨rfl, rfl⟩ (by kernel_rfl) rfl
    (fun f fn hf hfn => by
      obtain rfl : f = 5 := Option.some.inj ((show Tryd.prog.funcNamed "loop.example/g01233/laws.FnExactLeastShape" = some 5 by kernel_rfl).symm.trans hf) |>.symm
      obtain rfl : fn = Tryd.f5 := (Option.some.inj (Tryd.func5.symm.trans hfn)).symm
      exact ⟨by kernel_rfl, fun j t ht => by
        rw [Tryd.params5] at ht
        rcases j with _ | j
        · have e : t = 9 := by simpa using ht.symm
          subst e
          exact (show Tryd.prog.wantsStandIn 9 = false by kernel_rfl)
        simp at ht⟩)
    (by kernel_rfl)

end Go.Proofs.YtfkbjflndkjlnaaDoor.L
namespace Go.Proofs.YtfkbjflndkjlnaaDoor
/-- The row, under a short name, for the claim. -/
theorem fnExactLeastShape_holds : Rows.FnExactLeastShapeCardSaid := L.proved
#print axioms fnExactLeastShape_holds
end Go.Proofs.YtfkbjflndkjlnaaDoor
