/- For every three numbers the law FnExactMakePuzzle returns true: the program's MakePuzzle tells what the reference's tells, and what it hands back is its own. Conditions: none beyond the row's own; the table that it reads is tied to the program's text. -/
import Derived.Test.YtkmebbadjejheaaDoorRows
import Derived.Test.YtkmebbadjejheaaDoorBd
import Derived.Test.YtkmebbadjejheaaDoorBc1
import Derived.Test.YtkmebbadjejheaaDoorBc7
import Derived.Test.YtkmebbadjejheaaDoorCards
import Derived.Test.YtkmebbadjejheaaDoorTie
import Derived.WalkKit
import Derived.ProofKit
import Derived.OpenShut
import Derived.ShutString
import Derived.ChangeOld
import Derived.Below
import Derived.SizedLaws
import Derived.Lib.SmallJoins
import Derived.Deep.LoopGhost
import Derived.Deep.Draws
import Derived.Deep.RegionHeld3
import Derived.Lib.LaidIn
import Derived.Lib.LaidTab
import Derived.Deep.DeepHandedRow
import Derived.SevenTiedAt
namespace Go.Proofs.YtkmebbadjejheaaDoor.B
open Go.ChangeShapes Go.WideShapes Go.ChangeAt Go.RowKit Go.Joins
open Go.ChangeMaps (open_string shut_string)
open Go.Proofs.YtkmebbadjejheaaDoorW.PrintWords Go.Proofs.YtkmebbadjejheaaDoorW.PrintLast Go.Proofs.YtkmebbadjejheaaDoorW.PrintMore
attribute [local go_sem] max2_int min2_int max_two min_two max_three min_three max_four min_four
set_option linter.unusedVariables false
set_option linter.unusedSimpArgs false
set_option linter.unnecessarySimpa false
/-! The number of bits that are set, and the program's way to count them. -/
/-- how many of the first n bits of x are set -/
def pcn : Nat → Nat → Nat
  | 0, _ => 0
  | n + 1, x => x % 2 + pcn n (x / 2)
/-- the same mask in each of n bytes -/
def rep (m : Nat) : Nat → Nat
  | 0 => 0
  | n + 1 => m + 256 * rep m n
theorem and_split (a b m M : Nat) (ha : a < 256) (hm : m < 256) : (a + 256 * b) &&& (m + 256 * M) = (a &&& m) + 256 * (b &&& M) := by
  apply Nat.eq_of_testBit_eq
  intro i
  have e : ∀ x y : Nat, x < 256 → (x + 256 * y).testBit i = if i < 8 then x.testBit i else y.testBit (i - 8) := by
    intro x y hx
    rw [Nat.add_comm, show 256 * y = 2 ^ 8 * y by rfl, Nat.testBit_two_pow_mul_add y (by simpa using hx)]
  have hl : (a &&& m) < 256 := Nat.and_lt_two_pow (n := 8) a hm
  rw [Nat.testBit_and, e a b ha, e m M hm, e _ _ hl]
  split <;> rw [Nat.testBit_and]
def st1 (x : Nat) : Nat := (x / 2 &&& 85) + (x &&& 85)
def st2 (x : Nat) : Nat := (x / 4 &&& 51) + (x &&& 51)
def st3 (x : Nat) : Nat := (x / 16 + x) &&& 15
def s1 (n x : Nat) : Nat := (x / 2 &&& rep 85 n) + (x &&& rep 85 n)
def s2 (n x : Nat) : Nat := (x / 4 &&& rep 51 n) + (x &&& rep 51 n)
def s3 (n x : Nat) : Nat := (x / 16 + x) &&& rep 15 n
theorem byte1 : ∀ a : Fin 256, ∀ c : Fin 2, (((a.val / 2 + 128 * c.val) &&& 85) = (a.val / 2 &&& 85)) ∧ st1 a.val < 256 := by decide +kernel
theorem byte2 : ∀ a : Fin 256, ∀ c : Fin 4, (((a.val / 4 + 64 * c.val) &&& 51) = (a.val / 4 &&& 51)) ∧ st2 a.val < 256 := by decide +kernel
theorem byte3 : ∀ a : Fin 256, ∀ c : Fin 5, a.val % 16 ≤ 4 → a.val / 16 ≤ 4 → ((a.val / 16 + a.val + 16 * c.val) &&& 15) = st3 a.val ∧ a.val / 16 + a.val + 16 * c.val < 256 := by decide +kernel
theorem byteAll : ∀ a : Fin 256, st3 (st2 (st1 a.val)) = pcn 8 a.val ∧ pcn 8 a.val ≤ 8 ∧ st2 (st1 a.val) % 16 ≤ 4 ∧ st2 (st1 a.val) / 16 ≤ 4 := by decide +kernel
theorem s1_step (n a b : Nat) (ha : a < 256) : s1 (n + 1) (a + 256 * b) = st1 a + 256 * s1 n b := by
  unfold s1
  have e : (a + 256 * b) / 2 = (a / 2 + 128 * (b % 2)) + 256 * (b / 2) := by omega
  have h := byte1 ⟨a, ha⟩ ⟨b % 2, by omega⟩
  rw [e, rep, and_split _ _ _ _ (by omega) (by omega), and_split _ _ _ _ ha (by omega), h.1]
  unfold st1
  simp only
  omega
theorem s2_step (n a b : Nat) (ha : a < 256) : s2 (n + 1) (a + 256 * b) = st2 a + 256 * s2 n b := by
  unfold s2
  have e : (a + 256 * b) / 4 = (a / 4 + 64 * (b % 4)) + 256 * (b / 4) := by omega
  have h := byte2 ⟨a, ha⟩ ⟨b % 4, by omega⟩
  rw [e, rep, and_split _ _ _ _ (by omega) (by omega), and_split _ _ _ _ ha (by omega), h.1]
  unfold st2
  simp only
  omega
theorem s3_step (n a b : Nat) (ha : a < 256) (h1 : a % 16 ≤ 4) (h2 : a / 16 ≤ 4) (h3 : b % 16 ≤ 4) : s3 (n + 1) (a + 256 * b) = st3 a + 256 * s3 n b := by
  unfold s3
  have e : (a + 256 * b) / 16 + (a + 256 * b) = (a / 16 + a + 16 * (b % 16)) + 256 * (b / 16 + b) := by omega
  have h := byte3 ⟨a, ha⟩ ⟨b % 16, by omega⟩ h1 h2
  rw [e, rep, and_split _ _ _ _ h.2 (by omega), h.1]
/-- the bytes of the three first stages: each tells its own count -/
def cnt : Nat → Nat → Nat
  | 0, _ => 0
  | n + 1, x => pcn 8 (x % 256) + 256 * cnt n (x / 256)
theorem stages (n : Nat) : ∀ x : Nat, x < 256 ^ n → s3 n (s2 n (s1 n x)) = cnt n x ∧ s2 n (s1 n x) % 16 ≤ 4 := by
  induction n with
  | zero =>
    intro x hx
    obtain rfl : x = 0 := by simpa using hx
    decide
  | succ n ih =>
    intro x hx
    have hb : x / 256 < 256 ^ n := by rw [Nat.pow_succ] at hx; omega
    obtain ⟨i1, i2⟩ := ih (x / 256) hb
    have e : x = x % 256 + 256 * (x / 256) := by omega
    have hA := byteAll ⟨x % 256, by omega⟩
    have b1 := (byte1 ⟨x % 256, by omega⟩ 0).2
    have b2 := (byte2 ⟨st1 (x % 256), b1⟩ 0).2
    rw [e, s1_step _ _ _ (by omega), s2_step _ _ _ b1]
    refine ⟨?_, ?_⟩
    · rw [s3_step _ _ _ b2 hA.2.2.1 hA.2.2.2 i2, i1, hA.1]
      simp only [cnt]
      rw [show (x % 256 + 256 * (x / 256)) % 256 = x % 256 by omega, show (x % 256 + 256 * (x / 256)) / 256 = x / 256 by omega]
    · have := hA.2.2.1
      simp only at this
      omega
theorem pcn_byte (n : Nat) : ∀ x : Nat, pcn (8 + n) x = pcn 8 (x % 256) + pcn n (x / 256) := by
  intro x
  have key : ∀ m y : Nat, pcn (m + n) y = pcn m (y % 2 ^ m) + pcn n (y / 2 ^ m) := by
    intro m
    induction m with
    | zero => intro y; simp [pcn]
    | succ m ih =>
      intro y
      rw [show m + 1 + n = (m + n) + 1 by omega]
      simp only [pcn]
      rw [ih (y / 2), Nat.div_div_eq_div_mul, show 2 * 2 ^ m = 2 ^ (m + 1) by rw [Nat.pow_succ]; omega]
      have h1 : y % 2 ^ (m + 1) % 2 = y % 2 := Nat.mod_mod_of_dvd _ ⟨2 ^ m, by rw [Nat.pow_succ]; omega⟩
      have h2 : y % 2 ^ (m + 1) / 2 = y / 2 % 2 ^ m := by
        rw [Nat.pow_succ, Nat.mul_comm, Nat.mod_mul_right_div_self]
      rw [h1, h2]
      omega
  exact key 8 x
theorem div1 (b t : Nat) (h : b < 256) : (b + 256 * t) / 256 = t := by omega
theorem div2 (b c t : Nat) (h : b < 256) (h2 : c < 256) : (b + 256 * (c + 256 * t)) / 65536 = t := by
  rw [show 65536 = 256 * 256 by rfl, ← Nat.div_div_eq_div_mul, div1 _ _ h, div1 _ _ h2]
theorem div4 (b c d e t : Nat) (h : b < 256) (h2 : c < 256) (h3 : d < 256) (h4 : e < 256) : (b + 256 * (c + 256 * (d + 256 * (e + 256 * t)))) / 4294967296 = t := by
  rw [show 4294967296 = 65536 * 65536 by rfl, ← Nat.div_div_eq_div_mul, div2 _ _ _ h h2, div2 _ _ _ h3 h4]
theorem lt_step (b t N : Nat) (h : b < 256) (ht : t < N) : b + 256 * t < 256 * N := by omega
theorem lt8 (b0 b1 b2 b3 b4 b5 b6 b7 : Nat) (h0 : b0 < 256) (h1 : b1 < 256) (h2 : b2 < 256) (h3 : b3 < 256) (h4 : b4 < 256) (h5 : b5 < 256) (h6 : b6 < 256) (h7 : b7 < 256) : b0 + 256 * (b1 + 256 * (b2 + 256 * (b3 + 256 * (b4 + 256 * (b5 + 256 * (b6 + 256 * b7)))))) < 18446744073709551616 :=
  lt_step _ _ _ h0 (lt_step _ _ _ h1 (lt_step _ _ _ h2 (lt_step _ _ _ h3 (lt_step _ _ _ h4 (lt_step _ _ _ h5 (lt_step _ _ _ h6 h7))))))
theorem add1 (b0 b1 b2 b3 b4 b5 b6 b7 : Nat) : (b0 + 256 * (b1 + 256 * (b2 + 256 * (b3 + 256 * (b4 + 256 * (b5 + 256 * (b6 + 256 * b7))))))) + (b1 + 256 * (b2 + 256 * (b3 + 256 * (b4 + 256 * (b5 + 256 * (b6 + 256 * b7)))))) = (b0 + b1) + 256 * ((b1 + b2) + 256 * ((b2 + b3) + 256 * ((b3 + b4) + 256 * ((b4 + b5) + 256 * ((b5 + b6) + 256 * ((b6 + b7) + 256 * b7)))))) := by omega
theorem add2 (b0 b1 b2 b3 b4 b5 b6 b7 : Nat) : (b0 + 256 * (b1 + 256 * (b2 + 256 * (b3 + 256 * (b4 + 256 * (b5 + 256 * (b6 + 256 * b7))))))) + (b2 + 256 * (b3 + 256 * (b4 + 256 * (b5 + 256 * (b6 + 256 * b7))))) = (b0 + b2) + 256 * ((b1 + b3) + 256 * ((b2 + b4) + 256 * ((b3 + b5) + 256 * ((b4 + b6) + 256 * ((b5 + b7) + 256 * (b6 + 256 * b7)))))) := by omega
theorem add4 (b0 b1 b2 b3 b4 b5 b6 b7 : Nat) : (b0 + 256 * (b1 + 256 * (b2 + 256 * (b3 + 256 * (b4 + 256 * (b5 + 256 * (b6 + 256 * b7))))))) + (b4 + 256 * (b5 + 256 * (b6 + 256 * b7))) = (b0 + b4) + 256 * ((b1 + b5) + 256 * ((b2 + b6) + 256 * ((b3 + b7) + 256 * (b4 + 256 * (b5 + 256 * (b6 + 256 * b7)))))) := by omega
theorem mod128 (b t : Nat) (h : b < 128) : (b + 256 * t) % 128 = b := by omega
/-- the last three stages add the bytes -/
theorem add_bytes (b0 b1 b2 b3 b4 b5 b6 b7 : Nat) (h0 : b0 ≤ 8) (h1 : b1 ≤ 8) (h2 : b2 ≤ 8) (h3 : b3 ≤ 8) (h4 : b4 ≤ 8) (h5 : b5 ≤ 8) (h6 : b6 ≤ 8) (h7 : b7 ≤ 8) (x y z : Nat)
    (hx : x = b0 + 256 * (b1 + 256 * (b2 + 256 * (b3 + 256 * (b4 + 256 * (b5 + 256 * (b6 + 256 * b7)))))))
    (hy : y = x + x / 256) (hz : z = y + y / 65536) : z + z / 4294967296 < 18446744073709551616 ∧ y < 18446744073709551616 ∧ z < 18446744073709551616 ∧ (z + z / 4294967296) % 128 = b0 + b1 + b2 + b3 + b4 + b5 + b6 + b7 := by
  rw [hx, div1 _ _ (by omega), add1] at hy
  rw [hy, div2 _ _ _ (by omega) (by omega), add2] at hz
  rw [hz, div4 _ _ _ _ _ (by omega) (by omega) (by omega) (by omega), add4, hy, mod128 _ _ (by omega)]
  refine ⟨lt8 _ _ _ _ _ _ _ _ ?_ ?_ ?_ ?_ ?_ ?_ ?_ ?_, lt8 _ _ _ _ _ _ _ _ ?_ ?_ ?_ ?_ ?_ ?_ ?_ ?_, lt8 _ _ _ _ _ _ _ _ ?_ ?_ ?_ ?_ ?_ ?_ ?_ ?_, ?_⟩ <;> omega

theorem and64 (a M : Nat) (ha : a < 18446744073709551616) (hM : M < 18446744073709551616) (b : Int) (hb : b = (a : Int)) (c : Int) (hc : c = (M : Int)) : Go.bits .and .u64 b c = ((a &&& M : Nat) : Int) := by
  subst hb hc
  exact u64_and_nat a M ha hM
theorem wrap64u (a : Nat) (ha : a < 18446744073709551616) (b : Int) (hb : b = (a : Int)) : IntKind.u64.wrap b = (a : Int) := by
  subst hb
  rw [IntKind.wrap_u64]
  omega
theorem rep85 : rep 85 8 = 6148914691236517205 := by decide
theorem rep51 : rep 51 8 = 3689348814741910323 := by decide
theorem rep15 : rep 15 8 = 1085102592571150095 := by decide
theorem s1_lt (m : Nat) : s1 8 m < 18446744073709551616 := by
  have h1 : m / 2 &&& rep 85 8 ≤ rep 85 8 := Nat.and_le_right
  have h2 : m &&& rep 85 8 ≤ rep 85 8 := Nat.and_le_right
  rw [rep85] at h1 h2
  unfold s1
  rw [rep85]; omega
theorem s2_lt (m : Nat) : s2 8 m ≤ 7378697629483820646 := by
  have h1 : m / 4 &&& rep 51 8 ≤ rep 51 8 := Nat.and_le_right
  have h2 : m &&& rep 51 8 ≤ rep 51 8 := Nat.and_le_right
  rw [rep51] at h1 h2
  unfold s2
  rw [rep51]; omega
theorem pcn_zero (x : Nat) : pcn 0 x = 0 := rfl
theorem cnt8 (x : Nat) : ∃ b0 b1 b2 b3 b4 b5 b6 b7 : Nat, (b0 ≤ 8 ∧ b1 ≤ 8 ∧ b2 ≤ 8 ∧ b3 ≤ 8 ∧ b4 ≤ 8 ∧ b5 ≤ 8 ∧ b6 ≤ 8 ∧ b7 ≤ 8) ∧ cnt 8 x = b0 + 256 * (b1 + 256 * (b2 + 256 * (b3 + 256 * (b4 + 256 * (b5 + 256 * (b6 + 256 * b7)))))) ∧ pcn 64 x = b0 + b1 + b2 + b3 + b4 + b5 + b6 + b7 := by
  have hb : ∀ y : Nat, pcn 8 (y % 256) ≤ 8 := fun y => (byteAll ⟨y % 256, by omega⟩).2.1
  refine ⟨_, _, _, _, _, _, _, _, ⟨hb x, hb (x / 256), hb (x / 256 / 256), hb (x / 256 / 256 / 256), hb (x / 256 / 256 / 256 / 256), hb (x / 256 / 256 / 256 / 256 / 256), hb (x / 256 / 256 / 256 / 256 / 256 / 256), hb (x / 256 / 256 / 256 / 256 / 256 / 256 / 256)⟩, rfl, ?_⟩
  rw [show (64 : Nat) = 8 + 56 by rfl, pcn_byte, show (56 : Nat) = 8 + 48 by rfl, pcn_byte, show (48 : Nat) = 8 + 40 by rfl, pcn_byte, show (40 : Nat) = 8 + 32 by rfl, pcn_byte, show (32 : Nat) = 8 + 24 by rfl, pcn_byte, show (24 : Nat) = 8 + 16 by rfl, pcn_byte, show (16 : Nat) = 8 + 8 by rfl, pcn_byte]
  rw [show pcn 8 (x / 256 / 256 / 256 / 256 / 256 / 256 / 256) = pcn (8 + 0) (x / 256 / 256 / 256 / 256 / 256 / 256 / 256) by rfl, pcn_byte, pcn_zero]
  omega
theorem h1_f (m : Nat) (hm : m < 18446744073709551616) : IntKind.u64.wrap ((Go.bits .and .u64 ((m : Int) / 2) 6148914691236517205) + (Go.bits .and .u64 (m : Int) 6148914691236517205)) = ((s1 8 m : Nat) : Int) := by
  rw [and64 (m / 2) (rep 85 8) (by omega) (by rw [rep85]; omega) _ (by omega) _ (by rw [rep85]; omega), and64 m (rep 85 8) hm (by rw [rep85]; omega) _ rfl _ (by rw [rep85]; omega)]
  exact wrap64u _ (s1_lt m) _ (by unfold s1; push_cast; rfl)
theorem h2_f (m : Nat) (hm : m < 18446744073709551616) : IntKind.u64.wrap ((Go.bits .and .u64 ((m : Int) / 4) 3689348814741910323) + (Go.bits .and .u64 (m : Int) 3689348814741910323)) = ((s2 8 m : Nat) : Int) := by
  have := s2_lt m
  rw [and64 (m / 4) (rep 51 8) (by omega) (by rw [rep51]; omega) _ (by omega) _ (by rw [rep51]; omega), and64 m (rep 51 8) hm (by rw [rep51]; omega) _ rfl _ (by rw [rep51]; omega)]
  exact wrap64u _ (by omega) _ (by unfold s2; push_cast; rfl)
theorem h3_f (m : Nat) (hm : m ≤ 7378697629483820646) : Go.bits .and .u64 (IntKind.u64.wrap ((m : Int) / 16 + (m : Int))) 1085102592571150095 = ((s3 8 m : Nat) : Int) := by
  rw [wrap64u (m / 16 + m) (by omega) _ (by omega)]
  exact and64 _ _ (by omega) (by rw [rep15]; omega) _ rfl _ (by rw [rep15]; omega)
theorem h4_f (x d : Nat) (h : x + x / d < 18446744073709551616) : IntKind.u64.wrap ((x : Int) + (x : Int) / (d : Int)) = ((x + x / d : Nat) : Int) := wrap64u _ h _ (by push_cast; rfl)
theorem h5_f (n : Nat) (h : n < 18446744073709551616) : Go.bits .and .i64 (wrap64 (n : Int)) 127 = ((n % 128 : Nat) : Int) := by
  rw [i64_and127]
  unfold wrap64
  omega
set_option maxHeartbeats 4000000 in
theorem ones_f (m : Nat) (hm : m < 18446744073709551616) : bits_OnesCount64.f (m : Int) = some ((pcn 64 m : Nat) : Int) := by
  have hs := (stages 8 m (by simpa using hm)).1
  obtain ⟨b0, b1, b2, b3, b4, b5, b6, b7, ⟨q0, q1, q2, q3, q4, q5, q6, q7⟩, hc, hp⟩ := cnt8 m
  rw [hc] at hs
  generalize hx : b0 + 256 * (b1 + 256 * (b2 + 256 * (b3 + 256 * (b4 + 256 * (b5 + 256 * (b6 + 256 * b7)))))) = x at hs
  obtain ⟨a1, a2, a3, a4⟩ := add_bytes b0 b1 b2 b3 b4 b5 b6 b7 q0 q1 q2 q3 q4 q5 q6 q7 x (x + x / 256) ((x + x / 256) + (x + x / 256) / 65536) hx.symm rfl rfl
  rw [hp, ← a4]
  clear q0 q1 q2 q3 q4 q5 q6 q7 hc hp a4 hx
  unfold bits_OnesCount64.f
  simp only [h1_f m hm, h2_f _ (s1_lt m), h3_f _ (s2_lt _), hs]
  rw [show (256 : Int) = ((256 : Nat) : Int) by rfl, h4_f x 256 a2, show (65536 : Int) = ((65536 : Nat) : Int) by rfl, h4_f _ 65536 a3, show (4294967296 : Int) = ((4294967296 : Nat) : Int) by rfl, h4_f _ 4294967296 a1, h5_f _ a1]

/-! Figures: both programs ask the same. -/
def Rise (l : List Int) : Prop := ∀ j : Nat, 1 ≤ j → j < l.length → rd l ((j : Int) - 1) < rd l j
def Within (l : List Int) (lo hi : Int) : Prop := ∀ x ∈ l, lo ≤ x ∧ x ≤ hi
theorem w64 (x : Int) (h1 : -9223372036854775808 ≤ x) (h2 : x ≤ 9223372036854775807) : wrap64 x = x := by unfold wrap64; omega

theorem rd_mem {l : List Int} {j : Nat} (h : j < l.length) : rd l (j : Int) ∈ l := by
  have e : rd l (j : Int) = l[j] := by simp [rd, h]
  rw [e]; exact List.getElem_mem h
theorem mem_rd {l : List Int} {x : Int} (h : x ∈ l) : ∃ j : Nat, j < l.length ∧ rd l (j : Int) = x := by
  obtain ⟨j, hj, rfl⟩ := List.getElem_of_mem h
  exact ⟨j, hj, by simp [rd, hj]⟩

theorem impl_within_f (a lo hi : Int) : impl_within.f a lo hi = some (decide (lo ≤ a) && decide (a ≤ hi)) := by
  unfold impl_within.f
  by_cases h : lo ≤ a <;> simp [h]
theorem spec_l1In_f (a lo hi : Int) : spec_l1In.f a lo hi = some (decide (lo ≤ a) && decide (a ≤ hi)) := by
  unfold spec_l1In.f
  by_cases h : lo ≤ a
  · rw [if_pos h]; simp [h]
  · rw [if_neg (by omega)]; simp [h]


/-! Sets of edges as bits. -/
theorem rise_lt {l : List Int} (h : Rise l) : ∀ (d i : Nat), i + d + 1 < l.length → rd l (i : Int) < rd l ((i + d + 1 : Nat) : Int) := by
  intro d
  induction d with
  | zero =>
    intro i hi
    have := h (i + 1) (by omega) (by omega)
    rw [show ((i + 1 : Nat) : Int) - 1 = (i : Int) by omega] at this
    exact this
  | succ d ih =>
    intro i hi
    have h1 := ih i (by omega)
    have h2 := h (i + (d + 1) + 1) (by omega) hi
    rw [show ((i + (d + 1) + 1 : Nat) : Int) - 1 = ((i + d + 1 : Nat) : Int) by omega] at h2
    omega
theorem rise_pairwise {l : List Int} (h : Rise l) : l.Pairwise (· < ·) := by
  rw [List.pairwise_iff_getElem]
  intro i j hi hj hij
  have := rise_lt h (j - i - 1) i (by omega)
  rw [show i + (j - i - 1) + 1 = j by omega] at this
  simpa [rd, hi, hj] using this
theorem pairwise_rise {l : List Int} (h : l.Pairwise (· < ·)) : Rise l := by
  intro j h1 hj
  rw [List.pairwise_iff_getElem] at h
  have := h (j - 1) j (by omega) hj (by omega)
  have e1 : rd l ((j : Int) - 1) = l[j - 1] := by
    rw [show (j : Int) - 1 = ((j - 1 : Nat) : Int) by omega]
    simp [rd, show j - 1 < l.length by omega]
  have e2 : rd l (j : Int) = l[j] := by simp [rd, hj]
  rw [e1, e2]; exact this
theorem rise_iff (l : List Int) : Rise l ↔ l.Pairwise (· < ·) := ⟨rise_pairwise, pairwise_rise⟩

theorem pow64 {x : Nat} (h : x < 64) : 2 ^ x < 18446744073709551616 := Nat.lt_of_lt_of_le (Nat.pow_lt_pow_right (by decide) h) (by decide)
theorem shl_one (x : Int) (h0 : 0 ≤ x) (h : x < 64) : shl .u64 1 x = ((2 ^ x.toNat : Nat) : Int) := by
  unfold shl
  have hx : x.toNat < 64 := by omega
  have e : min x.toNat (IntKind.u64.bits) = x.toNat := Nat.min_eq_left (by show x.toNat ≤ 64; omega)
  rw [e, IntKind.wrap_u64, Int.one_mul]
  have := pow64 hx
  have e2 : ((2 : Int) ^ x.toNat) = ((2 ^ x.toNat : Nat) : Int) := by push_cast; rfl
  rw [e2]
  exact Int.emod_eq_of_lt (Int.natCast_nonneg _) (Int.ofNat_lt.mpr this)
theorem or64 {a b : Nat} (ha : a < 18446744073709551616) (hb : b < 18446744073709551616) : a ||| b < 18446744073709551616 := Nat.or_lt_two_pow (n := 64) ha hb
/-- bits laid on, one after the other -/
def acc (base : Int) (l : List Int) (m : Nat) : Nat := l.foldl (fun m x => m ||| 2 ^ (base + x).toNat) m
theorem acc_lt (base : Int) : ∀ (l : List Int) (m : Nat), m < 18446744073709551616 → (∀ x ∈ l, 0 ≤ base + x ∧ base + x < 64) → acc base l m < 18446744073709551616 := by
  intro l
  induction l with
  | nil => intro m hm _; exact hm
  | cons x l ih =>
    intro m hm h
    have hx := h x (by simp)
    exact ih _ (or64 hm (pow64 (by omega))) (fun y hy => h y (by simp [hy]))
theorem acc_testBit (base : Int) : ∀ (l : List Int) (m j : Nat), (∀ x ∈ l, 0 ≤ base + x) → ((acc base l m).testBit j = true ↔ m.testBit j = true ∨ ((j : Int) - base) ∈ l) := by
  intro l
  induction l with
  | nil => intro m j _; simp [acc]
  | cons x l ih =>
    intro m j h
    have hx := h x (by simp)
    show (acc base l (m ||| 2 ^ (base + x).toNat)).testBit j = true ↔ _
    rw [ih _ j (fun y hy => h y (by simp [hy])), Nat.testBit_or, Nat.testBit_two_pow]
    simp only [Bool.or_eq_true, decide_eq_true_eq, List.mem_cons]
    constructor
    · rintro ((h1 | h1) | h1)
      · exact .inl h1
      · exact .inr (.inl (by omega))
      · exact .inr (.inr h1)
    · rintro (h1 | h1 | h1)
      · exact .inl (.inl h1)
      · exact .inl (.inr (by omega))
      · exact .inr h1
theorem pcn_or (n : Nat) : ∀ (m k : Nat), k < n → m.testBit k = false → pcn n (m ||| 2 ^ k) = pcn n m + 1 := by
  induction n with
  | zero => intro m k h; omega
  | succ n ih =>
    intro m k hk hb
    simp only [pcn]
    cases k with
    | zero =>
      have h0 : m % 2 = 0 := by
        have : m.testBit 0 = decide (m % 2 = 1) := by simp [Nat.testBit_zero]
        rw [this] at hb
        simp at hb
        omega
      have e1 : (m ||| 2 ^ 0) % 2 = 1 := by
        have : (m ||| 2 ^ 0).testBit 0 = true := by simp [Nat.testBit_or]
        rw [Nat.testBit_zero] at this
        simpa using this
      have e2 : (m ||| 2 ^ 0) / 2 = m / 2 := by
        apply Nat.eq_of_testBit_eq
        intro i
        rw [Nat.testBit_div_two, Nat.testBit_or, Nat.testBit_two_pow, Nat.testBit_div_two]
        simp
      rw [e1, e2]; omega
    | succ k =>
      have hb2 : (m / 2).testBit k = false := by rw [Nat.testBit_div_two]; exact hb
      have e1 : (m ||| 2 ^ (k + 1)) % 2 = m % 2 := by
        have h1 : (m ||| 2 ^ (k + 1)).testBit 0 = m.testBit 0 := by rw [Nat.testBit_or, Nat.testBit_two_pow]; simp
        rw [Nat.testBit_zero, Nat.testBit_zero, decide_eq_decide] at h1
        omega
      have e2 : (m ||| 2 ^ (k + 1)) / 2 = m / 2 ||| 2 ^ k := by
        apply Nat.eq_of_testBit_eq
        intro i
        rw [Nat.testBit_div_two, Nat.testBit_or, Nat.testBit_two_pow, Nat.testBit_or, Nat.testBit_div_two, Nat.testBit_two_pow]
        congr 1
        simp
      rw [e1, e2, ih _ k (by omega) hb2]; omega
theorem acc_count (base : Int) : ∀ (l : List Int) (m : Nat), l.Pairwise (· < ·) → (∀ x ∈ l, 0 ≤ base + x ∧ base + x < 64) → (∀ x ∈ l, m.testBit (base + x).toNat = false) → pcn 64 (acc base l m) = pcn 64 m + l.length := by
  intro l
  induction l with
  | nil => intro m _ _ _; simp [acc]
  | cons x l ih =>
    intro m hp h hb
    have hx := h x (by simp)
    rw [List.pairwise_cons] at hp
    show pcn 64 (acc base l (m ||| 2 ^ (base + x).toNat)) = _
    rw [ih _ hp.2 (fun y hy => h y (by simp [hy])) ?_, pcn_or 64 m _ (by omega) (hb x (by simp))]
    · simp; omega
    · intro y hy
      have h1 := hp.1 y hy
      rw [Nat.testBit_or, hb y (by simp [hy]), Nat.testBit_two_pow]
      simp; omega

/-- as a rewrite that the kernel need not check by unfolding -/
theorem bnd {α β : Type} (x : α) (f : α → Option β) : (some x).bind f = f x := by
  cases (⟨()⟩ : Nonempty Unit)
  rfl
theorem count_m (m : Nat) (hm : m < 18446744073709551616) (n : Nat) (h : pcn 64 m = n) : impl_set_count.f (m : Int) = some (n : Int) := by
  have e := ones_f m hm
  rw [h] at e
  simp only [impl_set_count.f, e, Option.bind_some]

/-! The numbers of the bits that are set, in order. -/
/-- the bits of m below n -/
def bitsOf (n m : Nat) : List Int := ((List.range n).filter m.testBit).map fun j : Nat => (j : Int)
theorem mem_bitsOf {n m : Nat} {x : Int} : x ∈ bitsOf n m ↔ ∃ j : Nat, x = (j : Int) ∧ j < n ∧ m.testBit j = true := by
  unfold bitsOf
  simp only [List.mem_map, List.mem_filter, List.mem_range]
  constructor
  · rintro ⟨j, ⟨h1, h2⟩, rfl⟩; exact ⟨j, rfl, h1, h2⟩
  · rintro ⟨j, rfl, h1, h2⟩; exact ⟨j, ⟨h1, h2⟩, rfl⟩
theorem bitsOf_pairwise (n m : Nat) : (bitsOf n m).Pairwise (· < ·) := by
  unfold bitsOf
  rw [List.pairwise_map]
  exact (List.Pairwise.sublist List.filter_sublist List.pairwise_lt_range).imp (fun h => by exact_mod_cast h)
/-- two rising lists with the same elements are one -/
theorem rising_ext : ∀ {a b : List Int}, a.Pairwise (· < ·) → b.Pairwise (· < ·) → (∀ x, x ∈ a ↔ x ∈ b) → a = b
  | [], [], _, _, _ => rfl
  | [], y :: b, _, _, h => by have := (h y).2 (by simp); simp at this
  | x :: a, [], _, _, h => by have := (h x).1 (by simp); simp at this
  | x :: a, y :: b, ha, hb, h => by
    rw [List.pairwise_cons] at ha hb
    have hxy : x = y := by
      have h1 := (h x).1 (by simp)
      have h2 := (h y).2 (by simp)
      simp only [List.mem_cons] at h1 h2
      rcases h1 with h1 | h1
      · exact h1
      · rcases h2 with h2 | h2
        · exact h2.symm
        · have := hb.1 _ h1; have := ha.1 _ h2; omega
    subst hxy
    congr 1
    refine rising_ext ha.2 hb.2 (fun z => ?_)
    have := h z
    simp only [List.mem_cons] at this
    constructor
    · intro hz
      rcases this.1 (.inr hz) with rfl | h1
      · exact absurd (ha.1 _ hz) (by omega)
      · exact h1
    · intro hz
      rcases this.2 (.inr hz) with rfl | h1
      · exact absurd (hb.1 _ hz) (by omega)
      · exact h1

/-! The listed bits of a set. -/
theorem low_bit {x : Nat} (h0 : x ≠ 0) (h : x < 18446744073709551616) : x.testBit (Lib.ctz 64 x) = true ∧ Lib.ctz 64 x < 64 ∧ (∀ j, j < Lib.ctz 64 x → x.testBit j = false) ∧ ∀ j, (x &&& (x - 1)).testBit j = (x.testBit j && decide (j ≠ Lib.ctz 64 x)) := by
  obtain ⟨m, hm, hk⟩ := Lib.ctzFrom_spec 64 x (by omega) (by simpa using h)
  have e : Lib.ctz 64 x = Lib.ctzFrom 64 x := by simp [Lib.ctz, h0]
  rw [e]
  generalize Lib.ctzFrom 64 x = c at *
  have tb : ∀ j, x.testBit j = if j < c then false else (2 * m + 1).testBit (j - c) := by
    intro j
    rw [hm, Nat.testBit_two_pow_mul]
    by_cases q : j < c
    · simp [q]; intro h; omega
    · simp [q, Nat.not_lt.1 q]
  have tp : ∀ j, (x - 1).testBit j = if j < c then true else (2 * m).testBit (j - c) := by
    intro j
    have hp : 0 < 2 ^ c := Nat.two_pow_pos c
    have e1 : x - 1 = 2 ^ c * (2 * m) + (2 ^ c - 1) := by
      rw [hm, Nat.mul_add, Nat.mul_one]; omega
    rw [e1, Nat.testBit_two_pow_mul_add _ (by omega)]
    by_cases q : j < c
    · simp [q, Nat.testBit_two_pow_sub_one]
    · simp [q]
  have odd0 : ∀ i, (2 * m).testBit i = ((2 * m + 1).testBit i && decide (i ≠ 0)) := by
    intro i
    cases i with
    | zero => simp [Nat.testBit_zero]
    | succ i => rw [Nat.testBit_succ, Nat.testBit_succ]; simp; congr 1; omega
  refine ⟨?_, hk, fun j hj => by rw [tb, if_pos hj], fun j => ?_⟩
  · rw [tb, if_neg (by omega), Nat.sub_self, Nat.testBit_zero]; simp
  · rw [Nat.testBit_and, tb, tp]
    by_cases q : j < c
    · simp [q]
    · simp only [if_neg q]
      rw [odd0]
      by_cases e2 : j = c
      · subst e2; simp
      · have : j - c ≠ 0 := by omega
        simp [this, e2]
theorem bitsOf_step {x : Nat} (h0 : x ≠ 0) (h : x < 18446744073709551616) : bitsOf 64 x = ((Lib.ctz 64 x : Nat) : Int) :: bitsOf 64 (x &&& (x - 1)) := by
  obtain ⟨h1, h2, h3, h4⟩ := low_bit h0 h
  refine rising_ext (bitsOf_pairwise _ _) ?_ (fun y => ?_)
  · rw [List.pairwise_cons]
    refine ⟨fun y hy => ?_, bitsOf_pairwise _ _⟩
    obtain ⟨j, rfl, hj, hb⟩ := mem_bitsOf.1 hy
    rw [h4] at hb
    simp only [Bool.and_eq_true, decide_eq_true_eq] at hb
    rcases Nat.lt_trichotomy j (Lib.ctz 64 x) with q | q | q
    · rw [h3 j q] at hb; simp at hb
    · exact absurd q hb.2
    · exact_mod_cast q
  · rw [List.mem_cons, mem_bitsOf, mem_bitsOf]
    constructor
    · rintro ⟨j, rfl, hj, hb⟩
      by_cases q : j = Lib.ctz 64 x
      · exact .inl (by rw [q])
      · exact .inr ⟨j, rfl, hj, by rw [h4, hb]; simp [q]⟩
    · rintro (rfl | ⟨j, rfl, hj, hb⟩)
      · exact ⟨_, rfl, h2, h1⟩
      · rw [h4] at hb
        simp only [Bool.and_eq_true] at hb
        exact ⟨j, rfl, hj, hb.1⟩
theorem bitsOf_zero (n : Nat) : bitsOf n 0 = [] := by
  unfold bitsOf
  simp
theorem bitsOf_length (n m : Nat) : (bitsOf n m).length ≤ n := by
  unfold bitsOf
  rw [List.length_map]
  exact Nat.le_trans (List.length_filter_le _ _) (by simp)
theorem tz_val (x : Nat) (hx : x < 18446744073709551616) : bits_TrailingZeros64.f (x : Int) = some ((Lib.ctz 64 x : Nat) : Int) := by
  unfold bits_TrailingZeros64.f
  rw [if_pos ⟨Int.natCast_nonneg _, Int.ofNat_lt.mpr hx⟩, Int.toNat_natCast]
theorem listed_l : ∀ (d x : Nat), (bitsOf 64 x).length = d → x < 18446744073709551616 → ∀ (k : Nat) (o : List Int), d < k → o.length + d ≤ 1000 → impl_set_listed.l0 k (x : Int) o = some (o ++ bitsOf 64 x) := by
  intro d
  induction d with
  | zero =>
    intro x hd hx k o hk ho
    obtain ⟨k, rfl⟩ : ∃ q, k = q + 1 := ⟨k - 1, by omega⟩
    have hb := List.eq_nil_of_length_eq_zero hd
    have h0 : x = 0 := Classical.byContradiction fun h => by rw [bitsOf_step h hx] at hb; simp at hb
    subst h0
    simp only [impl_set_listed.l0]
    rw [if_neg (by omega), bitsOf_zero, List.append_nil]
  | succ d ih =>
    intro x hd hx k o hk ho
    obtain ⟨k, rfl⟩ : ∃ q, k = q + 1 := ⟨k - 1, by omega⟩
    have h0 : x ≠ 0 := fun h => by subst h; rw [bitsOf_zero] at hd; simp at hd
    simp only [impl_set_listed.l0]
    rw [if_pos (by omega), tz_val x hx, Option.bind_some, if_pos (by omega)]
    have e1 : IntKind.u64.wrap ((x : Int) - 1) = ((x - 1 : Nat) : Int) := by rw [IntKind.wrap_u64]; omega
    rw [e1, u64_and_nat x (x - 1) hx (by omega)]
    have hs := bitsOf_step h0 hx
    rw [hs] at hd
    have := ih (x &&& (x - 1)) (by simpa using hd) (Nat.lt_of_le_of_lt Nat.and_le_left hx) k (o ++ [((Lib.ctz 64 x : Nat) : Int)]) (by omega) (by simp; omega)
    rw [this, hs]
    simp
theorem listed_f (x : Nat) (hx : x < 18446744073709551616) (k : Nat) (hk : 65 ≤ k) : impl_set_listed.f k (x : Int) = some (bitsOf 64 x) := by
  have := bitsOf_length 64 x
  have := listed_l _ x rfl hx k [] (by omega) (by simp; omega)
  simpa [impl_set_listed.f] using this

/-! A law's tests of what came back: its own marks read back, and equal to itself. -/
theorem eqInt_l (l : List Int) (hn : l.length ≤ 1000000) : ∀ (d i k : Nat), i + d = l.length → d < k → laws_eqIntS.l0 k l l (i : Int) = some true := by
  intro d
  induction d with
  | zero =>
    intro i k hi hk
    obtain ⟨k, rfl⟩ : ∃ q, k = q + 1 := ⟨k - 1, by omega⟩
    simp only [laws_eqIntS.l0]
    rw [if_neg (by omega)]
  | succ d ih =>
    intro i k hi hk
    obtain ⟨k, rfl⟩ : ∃ q, k = q + 1 := ⟨k - 1, by omega⟩
    simp only [laws_eqIntS.l0]
    rw [if_pos (by omega), if_pos (by omega), if_pos (by omega), if_pos trivial, w64 ((i : Int) + 1) (by omega) (by omega)]
    exact ih (i + 1) k (by omega) (by omega)
theorem eqInt_f (l : List Int) (hn : l.length ≤ 1000000) (k : Nat) (hk : l.length + 1 ≤ k) : laws_eqIntS.f k l l = some true := by
  unfold laws_eqIntS.f
  rw [if_pos rfl]
  exact eqInt_l l hn l.length 0 k (by omega) (by omega)
theorem rd_set (l : List Int) (i j : Nat) (v : Int) (hj : j < l.length) : rd (l.set i v) (j : Int) = if i = j then v else rd l (j : Int) := by
  simp [rd, List.getElem?_set]
  by_cases h : i = j
  · subst h; simp [hj]
  · simp [h]
theorem mark_l : ∀ (d : Nat) (x : List Int) (a : Int) (i k : Nat), i + d = x.length → d < k → x.length ≤ 1000000 → 0 ≤ a → a + d ≤ 4611686018427387904 → 
    ∃ y, laws_markIntS.l0 k x a (i : Int) = some (a + d, y) ∧ y.length = x.length ∧ (∀ j, j < i → rd y (j : Int) = rd x (j : Int)) ∧ ∀ j, i ≤ j → j < x.length → rd y (j : Int) = a + ((j : Int) - (i : Int)) := by
  intro d
  induction d with
  | zero =>
    intro x a i k hi hk hn h0 h1
    obtain ⟨k, rfl⟩ : ∃ q, k = q + 1 := ⟨k - 1, by omega⟩
    simp only [laws_markIntS.l0]
    rw [if_neg (by omega)]
    exact ⟨x, by simp, rfl, fun j hj => rfl, fun j hj hl => by omega⟩
  | succ d ih =>
    intro x a i k hi hk hn h0 h1
    obtain ⟨k, rfl⟩ : ∃ q, k = q + 1 := ⟨k - 1, by omega⟩
    simp only [laws_markIntS.l0]
    rw [if_pos (by omega), if_pos (by omega), Int.toNat_natCast, w64 ((i : Int) + 1) (by omega) (by omega), w64 (a + 1) (by omega) (by omega)]
    obtain ⟨y, e, hl, hb, ha⟩ := ih (x.set i a) (a + 1) (i + 1) k (by rw [List.length_set]; omega) (by omega) (by rw [List.length_set]; omega) (by omega) (by omega)
    rw [List.length_set] at hl ha
    refine ⟨y, ?_, hl, fun j hj => ?_, fun j hj hl2 => ?_⟩
    · rw [show ((i : Int) + 1) = ((i + 1 : Nat) : Int) by omega, e]
      congr 2; omega
    · rw [hb j (by omega), rd_set x i j a (by omega), if_neg (by omega)]
    · by_cases hij : i = j
      · subst hij
        rw [hb i (by omega), rd_set x i i a (by omega), if_pos rfl]; omega
      · rw [ha j (by omega) hl2]; omega
theorem held_l (x : List Int) (hn : x.length ≤ 1000000) : ∀ (d : Nat) (a : Int) (i k : Nat), i + d = x.length → d < k → 0 ≤ a → a + d ≤ 4611686018427387904 → (∀ j, i ≤ j → j < x.length → rd x (j : Int) = a + ((j : Int) - (i : Int))) → laws_heldIntS.l0 k x a (i : Int) = some (a + d) := by
  intro d
  induction d with
  | zero =>
    intro a i k hi hk h0 h1 h
    obtain ⟨k, rfl⟩ : ∃ q, k = q + 1 := ⟨k - 1, by omega⟩
    simp only [laws_heldIntS.l0]
    rw [if_neg (by omega)]
    simp
  | succ d ih =>
    intro a i k hi hk h0 h1 h
    obtain ⟨k, rfl⟩ : ∃ q, k = q + 1 := ⟨k - 1, by omega⟩
    simp only [laws_heldIntS.l0]
    rw [if_pos (by omega), if_pos (by omega), if_pos (by rw [h i (Nat.le_refl _) (by omega)]; omega), w64 ((i : Int) + 1) (by omega) (by omega), w64 (a + 1) (by omega) (by omega), show ((i : Int) + 1) = ((i + 1 : Nat) : Int) by omega, ih (a + 1) (i + 1) k (by omega) (by omega) (by omega) (by omega) (fun j hj hl => by rw [h j (by omega) hl]; omega)]
    congr 1; omega
theorem mark_f (x : List Int) (a : Int) (k : Nat) (hk : x.length + 1 ≤ k) (hn : x.length ≤ 1000000) (h0 : 0 ≤ a) (h1 : a ≤ 2305843009213693952) :
    ∃ y, laws_markIntS.f k x a = some (a + x.length, y) ∧ ∀ q, x.length + 1 ≤ q → laws_heldIntS.f q y a = some (a + x.length) := by
  obtain ⟨y, e, hl, _, ha⟩ := mark_l x.length x a 0 k (by omega) (by omega) hn h0 (by omega)
  refine ⟨y, e, fun q hq => ?_⟩
  have := held_l y (by omega) y.length a 0 q (by omega) (by omega) h0 (by omega) (fun j hj hl2 => by simpa using ha j hj (by omega))
  rw [hl] at this
  exact this
theorem markFig_f (w h : Int) (l2 l3 : List Int) (k : Nat) (hk : l2.length + l3.length + 2 ≤ k) (hn : l2.length ≤ 1000000) (hn3 : l3.length ≤ 1000000) :
    ∃ y2 y3 n, laws_markFigure.f k w h l2 l3 101 = some (n, y2, y3) ∧ (∀ q, l2.length + l3.length + 2 ≤ q → laws_heldFigure.f q w h y2 y3 101 = some n) ∧ 0 ≤ n := by
  obtain ⟨y2, e2, f2⟩ := mark_f l2 101 k (by omega) hn (by omega) (by omega)
  obtain ⟨y3, e3, f3⟩ := mark_f l3 (101 + l2.length) k (by omega) hn3 (by omega) (by omega)
  refine ⟨y2, y3, 101 + l2.length + l3.length, ?_, fun q hq => ?_, by omega⟩
  · simp only [laws_markFigure.f, e2, e3, Option.bind_some]
  · simp only [laws_heldFigure.f, f2 q (by omega), Option.bind_some]
    rw [if_neg (by omega), f3 q (by omega)]
    simp only [Option.bind_some]
    rw [if_neg (by omega)]
theorem eqFig_f (w h : Int) (l2 l3 : List Int) (k : Nat) (hk : l2.length + l3.length + 2 ≤ k) (hn : l2.length ≤ 1000000) (hn3 : l3.length ≤ 1000000) : laws_eqFigure.f k w h l2 l3 w h l2 l3 = some true := by
  simp only [laws_eqFigure.f, eqInt_f l2 hn k (by omega), eqInt_f l3 hn3 k (by omega), if_true, Option.bind_some]

/-! The program's and the reference's puzzle from a number. -/
theorem pow62 {x : Nat} (h : x < 62) : 2 ^ x < 4611686018427387904 := Nat.lt_of_lt_of_le (Nat.pow_lt_pow_right (by decide) h) (by decide)
theorem i64_wr : ∀ n : Int, 0 ≤ n → n < 2 ^ 63 → IntKind.i64.wrap n = n := fun n h0 h1 => by rw [IntKind.wrap_i64]; omega
theorem i64_and_nat {a b : Nat} (ha : a < 4611686018427387904) (hb : b < 4611686018427387904) : Go.bits .and .i64 (a : Int) (b : Int) = ((a &&& b : Nat) : Int) :=
  (bits_nat .i64 63 (by decide) i64_wr a b (by omega) (by omega)).1
theorem i64_or_nat {a b : Nat} (ha : a < 4611686018427387904) (hb : b < 4611686018427387904) : Go.bits .or .i64 (a : Int) (b : Int) = ((a ||| b : Nat) : Int) :=
  (bits_nat .i64 63 (by decide) i64_wr a b (by omega) (by omega)).2
theorem shl_i64 (x : Nat) (h : x < 62) : shl .i64 1 (x : Int) = ((2 ^ x : Nat) : Int) := by
  unfold shl
  have e : min (x : Int).toNat (IntKind.i64.bits) = x := by rw [Int.toNat_natCast]; exact Nat.min_eq_left (by show x ≤ 64; omega)
  have := pow62 h
  have e2 : ((2 : Int) ^ x) = ((2 ^ x : Nat) : Int) := by push_cast; rfl
  rw [e, Int.one_mul, e2]
  exact i64_wr _ (Int.natCast_nonneg _) (Int.lt_trans (Int.ofNat_lt.mpr this) (by decide))
theorem and_bit (m j : Nat) (hm : m < 4611686018427387904) (hj : j < 62) : (Go.bits .and .i64 (m : Int) ((2 ^ j : Nat) : Int) = 0) ↔ m.testBit j = false := by
  rw [i64_and_nat hm (pow62 hj), Int.natCast_eq_zero]
  constructor
  · intro e
    have h := congrArg (fun z => Nat.testBit z j) e
    simpa [Nat.testBit_and, Nat.testBit_two_pow] using h
  · intro hb
    apply Nat.eq_of_testBit_eq
    intro i
    rw [Nat.testBit_and, Nat.testBit_two_pow, Nat.zero_testBit]
    by_cases q : j = i
    · subst q; simp [hb]
    · simp [q]
/-- the places from i on whose bits are set -/
def segFrom (off m i d : Nat) : List Int := ((List.range' i d).filter fun j => m.testBit (off + j)).map fun j : Nat => (j : Int)
theorem segFrom_zero (off m i : Nat) : segFrom off m i 0 = [] := rfl
theorem segFrom_succ (off m i d : Nat) : segFrom off m i (d + 1) = if m.testBit (off + i) = true then (i : Int) :: segFrom off m (i + 1) d else segFrom off m (i + 1) d := by
  unfold segFrom
  rw [List.range'_succ, List.filter_cons]
  split <;> rfl
theorem segFrom_length (off m i d : Nat) : (segFrom off m i d).length ≤ d := by
  unfold segFrom
  rw [List.length_map]
  exact Nat.le_trans (List.length_filter_le _ _) (by simp)
theorem mem_seg {off m i d : Nat} {x : Int} : x ∈ segFrom off m i d ↔ ∃ j : Nat, x = (j : Int) ∧ i ≤ j ∧ j < i + d ∧ m.testBit (off + j) = true := by
  unfold segFrom
  simp only [List.mem_map, List.mem_filter, List.mem_range'_1]
  constructor
  · rintro ⟨j, ⟨⟨h1, h2⟩, h3⟩, rfl⟩; exact ⟨j, rfl, h1, h2, h3⟩
  · rintro ⟨j, rfl, h1, h2, h3⟩; exact ⟨j, ⟨⟨h1, h2⟩, h3⟩, rfl⟩
theorem seg_pairwise (off m i d : Nat) : (segFrom off m i d).Pairwise (· < ·) := by
  unfold segFrom
  rw [List.pairwise_map]
  refine (List.Pairwise.filter _ (List.pairwise_lt_range' (s := i) (n := d))).imp ?_
  intro a b h
  exact Int.ofNat_lt.mpr h
section
variable (w h : Int) (n2 n3 : Nat) (h2 : wrap64 (w * wrap64 (h + 1)) = (n2 : Int)) (h3 : wrap64 (wrap64 (w + 1) * h) = (n3 : Int)) (hn2 : n2 ≤ 20) (hn3 : n3 ≤ 20) (m : Nat) (hm : m < 4611686018427387904)
include h2 h3 hn2 hn3 hm
theorem sq_l1 (q r : Int) (L2 : List Int) : ∀ (d i k : Nat) (o : List Int), i + d = n3 → d < k → o.length + d ≤ 100 → spec_sqFigure.l1 k w h (m : Int) (i : Int) q r L2 o = some (q, r, L2, o ++ segFrom n2 m i d) := by
  intro d
  induction d with
  | zero =>
    intro i k o hi hk ho
    obtain ⟨k, rfl⟩ : ∃ p, k = p + 1 := ⟨k - 1, by omega⟩
    simp only [spec_sqFigure.l1]
    rw [h3, if_neg (by omega), segFrom_zero, List.append_nil]
  | succ d ih =>
    intro i k o hi hk ho
    obtain ⟨k, rfl⟩ : ∃ p, k = p + 1 := ⟨k - 1, by omega⟩
    simp only [spec_sqFigure.l1, spec_sqBit.f]
    rw [h3, h2, if_pos (by omega), if_pos trivial, w64 ((n2 : Int) + (i : Int)) (by omega) (by omega), if_pos (by omega), show (n2 : Int) + (i : Int) = ((n2 + i : Nat) : Int) by omega, shl_i64 _ (by omega), Option.bind_some, w64 ((i : Int) + 1) (by omega) (by omega), show ((i : Int) + 1) = ((i + 1 : Nat) : Int) by omega, segFrom_succ]
    by_cases hb : m.testBit (n2 + i) = true
    · rw [if_neg (fun e => by rw [(and_bit m (n2 + i) hm (by omega)).1 e] at hb; cases hb), if_pos (by omega), ih (i + 1) k (o ++ [(i : Int)]) (by omega) (by omega) (by simp; omega), if_pos hb, List.append_assoc]
      rfl
    · rw [if_pos ((and_bit m (n2 + i) hm (by omega)).2 (by simpa using hb)), ih (i + 1) k o (by omega) (by omega) (by omega), if_neg hb]
theorem sq_l0 (q r : Int) : ∀ (d i k : Nat) (o : List Int), i + d = n2 → d + n3 + 1 < k → o.length + d ≤ 100 → spec_sqFigure.l0 k w h (m : Int) (i : Int) q r o = some (q, r, o ++ segFrom 0 m i d, segFrom n2 m 0 n3) := by
  intro d
  induction d with
  | zero =>
    intro i k o hi hk ho
    obtain ⟨k, rfl⟩ : ∃ p, k = p + 1 := ⟨k - 1, by omega⟩
    simp only [spec_sqFigure.l0]
    rw [h2, if_neg (by omega), segFrom_zero, List.append_nil]
    have := sq_l1 w h n2 n3 h2 h3 hn2 hn3 m hm q r o n3 0 k [] (by omega) (by omega) (by simp; omega)
    simpa using this
  | succ d ih =>
    intro i k o hi hk ho
    obtain ⟨k, rfl⟩ : ∃ p, k = p + 1 := ⟨k - 1, by omega⟩
    simp only [spec_sqFigure.l0, spec_sqBit.f]
    rw [h2, if_pos (by omega), if_neg (by simp), if_pos (by omega), shl_i64 _ (by omega), Option.bind_some, w64 ((i : Int) + 1) (by omega) (by omega), show ((i : Int) + 1) = ((i + 1 : Nat) : Int) by omega, segFrom_succ, Nat.zero_add]
    by_cases hb : m.testBit i = true
    · rw [if_neg (fun e => by rw [(and_bit m i hm (by omega)).1 e] at hb; cases hb), if_pos (by omega), ih (i + 1) k (o ++ [(i : Int)]) (by omega) (by omega) (by simp; omega), if_pos hb, List.append_assoc]
      rfl
    · rw [if_pos ((and_bit m i hm (by omega)).2 (by simpa using hb)), ih (i + 1) k o (by omega) (by omega) (by omega), if_neg hb]
theorem sq_f (k : Nat) (hk : n2 + n3 + 2 ≤ k) : spec_sqFigure.f k w h (m : Int) = some (w, h, segFrom 0 m 0 n2, segFrom n2 m 0 n3) := by
  have := sq_l0 w h n2 n3 h2 h3 hn2 hn3 m hm w h n2 0 k [] (by omega) (by omega) (by simp; omega)
  simpa [spec_sqFigure.f] using this
end
theorem pcn_bits : ∀ (n x : Nat), pcn n x = ((List.range n).filter x.testBit).length := by
  intro n
  induction n with
  | zero => intro x; rfl
  | succ n ih =>
    intro x
    rw [List.range_succ_eq_map, List.filter_cons, List.filter_map, pcn, ih (x / 2)]
    have e : (x.testBit ∘ Nat.succ) = (x / 2).testBit := by
      funext j
      show x.testBit (j + 1) = (x / 2).testBit j
      rw [Nat.testBit_succ]
    rw [e, Nat.testBit_zero]
    by_cases h : x % 2 = 1
    · simp [h]; omega
    · have : x % 2 = 0 := by omega
      simp [this]
theorem pcn_length (x : Nat) : pcn 64 x = (bitsOf 64 x).length := by
  rw [pcn_bits]; unfold bitsOf; rw [List.length_map]
theorem ones_l : ∀ (d x : Nat), (bitsOf 64 x).length = d → x < 4611686018427387904 → ∀ (k : Nat) (o : Int), d < k → 0 ≤ o → o + d ≤ 1000 → spec_moOnes.l0 k (x : Int) o = some (o + d) := by
  intro d
  induction d with
  | zero =>
    intro x hd hx k o hk h0 ho
    obtain ⟨k, rfl⟩ : ∃ q, k = q + 1 := ⟨k - 1, by omega⟩
    have hb := List.eq_nil_of_length_eq_zero hd
    have h0 : x = 0 := Classical.byContradiction fun h => by rw [bitsOf_step h (by omega)] at hb; simp at hb
    subst h0
    simp only [spec_moOnes.l0]
    rw [if_pos (by omega)]
    simp
  | succ d ih =>
    intro x hd hx k o hk h0 ho
    obtain ⟨k, rfl⟩ : ∃ q, k = q + 1 := ⟨k - 1, by omega⟩
    have hx0 : x ≠ 0 := fun h => by subst h; rw [bitsOf_zero] at hd; simp at hd
    simp only [spec_moOnes.l0]
    rw [if_neg (by omega), w64 ((x : Int) - 1) (by omega) (by omega), show (x : Int) - 1 = ((x - 1 : Nat) : Int) by omega, i64_and_nat hx (by omega), w64 (o + 1) (by omega) (by omega)]
    rw [bitsOf_step hx0 (by omega)] at hd
    rw [ih (x &&& (x - 1)) (by simpa using hd) (Nat.lt_of_le_of_lt Nat.and_le_left hx) k (o + 1) (by omega) (by omega) (by omega)]
    congr 1; omega
theorem moOnes_f (x : Nat) (hx : x < 4611686018427387904) (k : Nat) (hk : 65 ≤ k) : spec_moOnes.f k (x : Int) = some ((pcn 64 x : Nat) : Int) := by
  have hl := bitsOf_length 64 x
  have := ones_l _ x rfl hx k 0 (by omega) (by omega) (by omega)
  rw [pcn_length]
  simpa [spec_moOnes.f] using this
/-- the program's lists of a set are the reference's -/
theorem low_list (m n : Nat) (hn : n ≤ 20) (hm : m < 4611686018427387904) : bitsOf 64 (m &&& (2 ^ n - 1)) = segFrom 0 m 0 n := by
  refine rising_ext (bitsOf_pairwise _ _) (seg_pairwise _ _ _ _) (fun x => ?_)
  rw [mem_bitsOf, mem_seg]
  constructor
  · rintro ⟨j, rfl, h1, h2⟩
    rw [Nat.testBit_and, Nat.testBit_two_pow_sub_one] at h2
    simp only [Bool.and_eq_true, decide_eq_true_eq] at h2
    exact ⟨j, rfl, Nat.zero_le _, by omega, by rw [Nat.zero_add]; exact h2.1⟩
  · rintro ⟨j, rfl, _, h1, h2⟩
    refine ⟨j, rfl, by omega, ?_⟩
    rw [Nat.zero_add] at h2
    rw [Nat.testBit_and, Nat.testBit_two_pow_sub_one, h2]
    simpa using h1
theorem high_list (m n d : Nat) (hn : n ≤ 20) (hd : d ≤ 20) (hm : m < 2 ^ (n + d)) : bitsOf 64 (m / 2 ^ n) = segFrom n m 0 d := by
  refine rising_ext (bitsOf_pairwise _ _) (seg_pairwise _ _ _ _) (fun x => ?_)
  rw [mem_bitsOf, mem_seg]
  constructor
  · rintro ⟨j, rfl, h1, h2⟩
    rw [Nat.testBit_div_two_pow] at h2
    refine ⟨j, rfl, Nat.zero_le _, ?_, by rw [Nat.add_comm]; exact h2⟩
    refine Classical.byContradiction fun q => ?_
    rw [Nat.testBit_lt_two_pow (Nat.lt_of_lt_of_le hm (Nat.pow_le_pow_right (by decide) (by omega)))] at h2
    cases h2
  · rintro ⟨j, rfl, _, h1, h2⟩
    exact ⟨j, rfl, by omega, by rw [Nat.testBit_div_two_pow, Nat.add_comm]; exact h2⟩

theorem shr_nat (m n : Nat) (hn : n ≤ 20) : shr .u64 (m : Int) (n : Int) = ((m / 2 ^ n : Nat) : Int) := by
  unfold shr
  have e : min (n : Int).toNat (IntKind.u64.bits) = n := by rw [Int.toNat_natCast]; exact Nat.min_eq_left (by show n ≤ 64; omega)
  rw [e]
  push_cast
  rfl
theorem fig_f (w h : Int) (n2 n3 : Nat) (h2 : wrap64 (w * wrap64 (h + 1)) = (n2 : Int)) (hn2 : n2 ≤ 20) (hn3 : n3 ≤ 20) (m : Nat) (hm : m < 4611686018427387904) (hm2 : m < 2 ^ (n2 + n3)) (k : Nat) (hk : 65 ≤ k) :
    impl_grid_figure.f k w h (m : Int) = some (w, h, segFrom 0 m 0 n2, segFrom n2 m 0 n3) := by
  have hp : 2 ^ n2 < 4611686018427387904 := pow62 (by omega)
  have hp0 : 0 < 2 ^ n2 := Nat.two_pow_pos n2
  have e1 : IntKind.u64.wrap ((shl .u64 1 (n2 : Int)) - 1) = ((2 ^ n2 - 1 : Nat) : Int) := by
    rw [shl_one _ (by omega) (by omega), Int.toNat_natCast, IntKind.wrap_u64, ← Int.natCast_one, ← Int.natCast_sub hp0]
    exact Int.emod_eq_of_lt (Int.natCast_nonneg _) (show ((2 ^ n2 - 1 : Nat) : Int) < ((18446744073709551616 : Nat) : Int) from Int.ofNat_lt.mpr (by omega))
  unfold impl_grid_figure.f impl_grid_levels.f
  rw [h2, Option.bind_some, if_pos (Int.natCast_nonneg _), e1, u64_and_nat m (2 ^ n2 - 1) (by omega) (by omega), listed_f _ (Nat.lt_of_le_of_lt Nat.and_le_left (by omega)) k hk, Option.bind_some, Option.bind_some, if_pos (Int.natCast_nonneg _), shr_nat m n2 hn2, listed_f _ (Nat.lt_of_le_of_lt (Nat.div_le_self _ _) (by omega)) k hk, Option.bind_some, low_list m n2 hn2 hm, high_list m n2 n3 hn2 hn3 hm2]
/-- the numbers and the set behind d edges from the i-th on -/
def mkn : Nat → Nat → Int → Nat → Int × Nat
  | 0, _, z, m => (z, m)
  | d + 1, i, z, m => mkn d (i + 1) (nx z) (if nx z % 5 = 0 then m else m ||| 2 ^ i)
def iota (i d : Nat) : List Int := (List.range' i d).map fun j : Nat => (j : Int)
theorem mkl_mkn : ∀ (d i : Nat) (z : Int) (m : Nat), i + d ≤ 40 → m < 4611686018427387904 → mkl (iota i d) z (m : Int) = ((mkn d i z m).1, (((mkn d i z m).2 : Nat) : Int)) := by
  intro d
  induction d with
  | zero => intro i z m _ _; rfl
  | succ d ih =>
    intro i z m hi hm
    have e : iota i (d + 1) = (i : Int) :: iota (i + 1) d := by unfold iota; rw [List.range'_succ]; rfl
    rw [e]
    simp only [mkl, mkn]
    have hp := pow62 (x := i) (by omega)
    rw [shl_one (i : Int) (by omega) (by omega), Int.toNat_natCast, u64_or_nat m (2 ^ i) (by omega) (by omega)]
    by_cases hq : nx z % 5 = 0
    · rw [if_pos hq, if_pos hq]; exact ih (i + 1) _ m (by omega) hm
    · rw [if_neg hq, if_neg hq]; exact ih (i + 1) _ _ (by omega) (Nat.or_lt_two_pow (n := 62) hm hp)
theorem mkn_lt : ∀ (d i : Nat) (z : Int) (m E : Nat), i + d ≤ E → m < 2 ^ E → (mkn d i z m).2 < 2 ^ E := by
  intro d
  induction d with
  | zero => intro i z m E _ hm; exact hm
  | succ d ih =>
    intro i z m E hi hm
    simp only [mkn]
    refine ih (i + 1) _ _ E (by omega) ?_
    split
    · exact hm
    · exact Nat.or_lt_two_pow hm (Nat.pow_lt_pow_right (by decide) (by omega))
theorem mkn_range : ∀ (d i : Nat) (z : Int) (m : Nat), 0 ≤ z → z ≤ 16380 → 0 ≤ (mkn d i z m).1 ∧ (mkn d i z m).1 ≤ 16380 := by
  intro d
  induction d with
  | zero => intro i z m h0 h; exact ⟨h0, h⟩
  | succ d ih => intro i z m h0 h; exact ih _ _ _ (nx_range h0 h).1 (nx_range h0 h).2
theorem nx_spec {z : Int} (h0 : 0 ≤ z) (h : z ≤ 16380) : Int.tmod (wrap64 ((wrap64 (97 * z)) + 3001)) 16381 = nx z := by
  rw [w64 (97 * z) (by omega) (by omega), w64 _ (by omega) (by omega), Int.tmod_eq_emod_of_nonneg (by omega)]
  unfold nx
  rw [Int.mul_comm]
/-- what both hand back -/
def mkTail (w h : Int) (n2 n3 : Nat) (Z : Int) (m : Nat) : Int × Int × List Int × List Int × Int × Bool × Int × Bool :=
  (w, h, segFrom 0 m 0 n2, segFrom n2 m 0 n3, mn (nx Z % 3 + 1) ((pcn 64 m : Nat) : Int), false, nx (nx Z) % 4, true)
theorem spec_loop (w h : Int) (n2 n3 : Nat) (h2 : wrap64 (w * wrap64 (h + 1)) = (n2 : Int)) (h3 : wrap64 (wrap64 (w + 1) * h) = (n3 : Int)) (hn2 : n2 ≤ 20) (hn3 : n3 ≤ 20) (T : List Int) (hT : T.length = n2 + n3) (hr : ∀ j : Nat, j < n2 + n3 → rd T (j : Int) = ((2 ^ j : Nat) : Int)) :
    ∀ (d i k : Nat) (z : Int) (m : Nat), i + d = n2 + n3 → d + 200 < k → 0 ≤ z → z ≤ 16380 → m < 2 ^ (n2 + n3) →
      spec_MakePuzzle.l0 k w h z (m : Int) T (T.length : Int) (i : Int) = some (mkTail w h n2 n3 (mkn d i z m).1 (mkn d i z m).2) := by
  have hp : 2 ^ (n2 + n3) < 4611686018427387904 := pow62 (by omega)
  intro d
  induction d with
  | zero =>
    intro i k z m hi hk h0 hz hm
    obtain ⟨k, rfl⟩ : ∃ q, k = q + 1 := ⟨k - 1, by omega⟩
    have hx := nx_range h0 hz
    have hy := nx_range hx.1 hx.2
    simp only [spec_MakePuzzle.l0]
    rw [if_neg (by omega), nx_spec h0 hz, nx_spec hx.1 hx.2, sq_f w h n2 n3 h2 h3 hn2 hn3 m (by omega) k (by omega), Option.bind_some, moOnes_f m (by omega) k (by omega), Option.bind_some, Int.tmod_eq_emod_of_nonneg hx.1, Int.tmod_eq_emod_of_nonneg hy.1, w64 (nx z % 3 + 1) (by omega) (by omega)]
    unfold spec_l1Least.f
    show _ = some (mkTail w h n2 n3 z m)
    have hmn : ∀ x y : Int, mn x y = if y < x then y else x := fun _ _ => rfl
    unfold mkTail
    rw [hmn]
    by_cases hq : ((pcn 64 m : Nat) : Int) < nx z % 3 + 1
    · rw [if_pos hq, if_pos hq, Option.bind_some]
    · rw [if_neg hq, if_neg hq, Option.bind_some]
  | succ d ih =>
    intro i k z m hi hk h0 hz hm
    obtain ⟨k, rfl⟩ : ∃ q, k = q + 1 := ⟨k - 1, by omega⟩
    have hx := nx_range h0 hz
    simp only [spec_MakePuzzle.l0]
    rw [if_pos (by omega), if_pos (by omega), if_pos (by omega), nx_spec h0 hz, Int.tmod_eq_emod_of_nonneg hx.1, hr i (by omega), w64 ((i : Int) + 1) (by omega) (by omega), show ((i : Int) + 1) = ((i + 1 : Nat) : Int) by omega, i64_or_nat (by omega) (pow62 (by omega))]
    simp only [mkn]
    by_cases hq : nx z % 5 = 0
    · rw [if_pos hq, if_pos hq]; exact ih (i + 1) k _ m (by omega) (by omega) hx.1 hx.2 hm
    · rw [if_neg hq, if_neg hq]; exact ih (i + 1) k _ _ (by omega) (by omega) hx.1 hx.2 (Nat.or_lt_two_pow hm (Nat.pow_lt_pow_right (by decide) (by omega)))
def mkE (w h : Nat) : Nat := w * (h + 1) + h * (w + 1)
theorem moBits_all : ∀ w h : Fin 3, spec_moBits.f 299 ((w.val + 1 : Nat) : Int) ((h.val + 1 : Nat) : Int) = some ((List.range' 0 (mkE (w.val + 1) (h.val + 1))).map fun j : Nat => ((2 ^ j : Nat) : Int)) := by decide +kernel
theorem all_all : ∀ w h : Fin 3, impl_grid_all.f ((w.val + 1 : Nat) : Int) ((h.val + 1 : Nat) : Int) = some ((2 ^ mkE (w.val + 1) (h.val + 1) - 1 : Nat) : Int) := by decide +kernel
theorem full_all : ∀ w h : Fin 3, bitsOf 64 (2 ^ mkE (w.val + 1) (h.val + 1) - 1) = iota 0 (mkE (w.val + 1) (h.val + 1)) := by decide +kernel
theorem grid_all2 : ∀ w h : Fin 3, wrap64 (((w.val + 1 : Nat) : Int) * wrap64 (((h.val + 1 : Nat) : Int) + 1)) = (((w.val + 1) * (h.val + 1 + 1) : Nat) : Int) ∧ wrap64 (wrap64 (((w.val + 1 : Nat) : Int) + 1) * ((h.val + 1 : Nat) : Int)) = (((h.val + 1) * (w.val + 1 + 1) : Nat) : Int) ∧ (w.val + 1) * (h.val + 1 + 1) ≤ 20 ∧ (h.val + 1) * (w.val + 1 + 1) ≤ 20 := by decide +kernel
theorem mem_iota {i d : Nat} {x : Int} (h : x ∈ iota i d) : (i : Int) ≤ x ∧ x < (i : Int) + (d : Int) := by
  unfold iota at h
  simp only [List.mem_map, List.mem_range'_1] at h
  obtain ⟨j, ⟨h1, h2⟩, rfl⟩ := h
  omega
theorem rd_iota2 (n j : Nat) (hj : j < n) : rd ((List.range' 0 n).map fun j : Nat => ((2 ^ j : Nat) : Int)) (j : Int) = ((2 ^ j : Nat) : Int) := by
  have e : rd ((List.range' 0 n).map fun j : Nat => ((2 ^ j : Nat) : Int)) (j : Int) = ((List.range' 0 n).map fun j : Nat => ((2 ^ j : Nat) : Int))[j]'(by simp; exact hj) := by simp [rd, hj]
  rw [e, List.getElem_map, List.getElem_range']
  simp
theorem Make_both (a0 a1 a2 : Int) : ∃ r : Int × Int × List Int × List Int × Int × Bool × Int × Bool, spec_MakePuzzle.f 300 a0 a1 a2 = some r ∧ (∀ k, 200 ≤ k → impl_MakePuzzle.f k a0 a1 a2 = some r) ∧ r.2.2.1.length ≤ 20 ∧ r.2.2.2.1.length ≤ 20 := by
  by_cases hc : 1 ≤ a0 ∧ a0 ≤ 3 ∧ 1 ≤ a1 ∧ a1 ≤ 3 ∧ 0 ≤ a2 ∧ a2 ≤ 9999
  · obtain ⟨w, rfl⟩ : ∃ w : Fin 3, a0 = ((w.val + 1 : Nat) : Int) := ⟨⟨(a0 - 1).toNat, by omega⟩, by simp; omega⟩
    obtain ⟨h, rfl⟩ : ∃ h : Fin 3, a1 = ((h.val + 1 : Nat) : Int) := ⟨⟨(a1 - 1).toNat, by omega⟩, by simp; omega⟩
    obtain ⟨g1, g2, g3, g4⟩ := grid_all2 w h
    have b1 := moBits_all w h
    have b2 := all_all w h
    have b3 := full_all w h
    have hE : mkE (w.val + 1) (h.val + 1) = (w.val + 1) * (h.val + 1 + 1) + (h.val + 1) * (w.val + 1 + 1) := rfl
    rw [hE] at b1 b2 b3
    generalize (w.val + 1) * (h.val + 1 + 1) = n2 at *
    generalize (h.val + 1) * (w.val + 1 + 1) = n3 at *
    have hp : 2 ^ (n2 + n3) < 4611686018427387904 := pow62 (by omega)
    have hm0 : (0 : Nat) < 2 ^ (n2 + n3) := Nat.two_pow_pos _
    have L := mkn_lt (n2 + n3) 0 a2 0 (n2 + n3) (by omega) hm0
    have R := mkn_range (n2 + n3) 0 a2 0 hc.2.2.2.2.1 (by omega)
    refine ⟨mkTail ((w.val + 1 : Nat) : Int) ((h.val + 1 : Nat) : Int) n2 n3 (mkn (n2 + n3) 0 a2 0).1 (mkn (n2 + n3) 0 a2 0).2, ?_, ?_, Nat.le_trans (segFrom_length _ _ _ _) (by omega), Nat.le_trans (segFrom_length _ _ _ _) (by omega)⟩
    · unfold spec_MakePuzzle.f
      rw [spec_l1In_f, spec_l1In_f, spec_l1In_f, Option.bind_some, if_pos (by simp; omega), Option.bind_some, if_pos (by simp; omega), Option.bind_some]
      simp only [spec_MakePuzzle.j0]
      rw [if_neg (by simp; omega), b1, Option.bind_some]
      have := spec_loop _ _ n2 n3 g1 g2 g3 g4 ((List.range' 0 (n2 + n3)).map fun j : Nat => ((2 ^ j : Nat) : Int)) (by simp) (fun j hj => rd_iota2 _ j hj) (n2 + n3) 0 299 a2 0 (by omega) (by omega) hc.2.2.2.2.1 (by omega) hm0
      exact this
    · intro k hk
      unfold impl_MakePuzzle.f
      rw [if_pos hc, b2, Option.bind_some, listed_f _ (by omega) k (by omega), Option.bind_some, b3, if_pos ⟨fun x hx => by have := mem_iota hx; omega, by unfold iota; simp; omega⟩]
      have hm := mkl_mkn (n2 + n3) 0 a2 0 (by omega) (by omega)
      rw [show ((0 : Nat) : Int) = 0 by rfl] at hm
      rw [hm]
      simp only
      rw [count_m _ (by omega) _ rfl, Option.bind_some, fig_f _ _ n2 n3 g1 g3 g4 _ (by omega) L k (by omega), Option.bind_some]
      rfl
  · refine ⟨(0, 0, [], [], 0, false, 0, false), ?_, ?_, by simp, by simp⟩
    · unfold spec_MakePuzzle.f
      simp only [spec_l1In_f, Option.bind_some, spec_MakePuzzle.j0]
      by_cases c1 : 1 ≤ a0 ∧ a0 ≤ 3
      · rw [if_pos (by simpa using c1)]
        by_cases c2 : 1 ≤ a1 ∧ a1 ≤ 3
        · have c3 : ¬ (0 ≤ a2 ∧ a2 ≤ 9999) := fun c3 => hc ⟨c1.1, c1.2, c2.1, c2.2, c3.1, c3.2⟩
          rw [if_pos (by simpa using c2), if_pos (by simp; omega)]
        · rw [if_neg (by simpa using c2)]; rfl
      · rw [if_neg (by simpa using c1)]; rfl
    · intro k hk
      unfold impl_MakePuzzle.f
      rw [if_neg hc]
theorem MakePuzzle_law (a0 a1 a2 : Int) : laws_FnExactMakePuzzle.f 300 a0 a1 a2 = some true := by
  obtain ⟨⟨r1, r2, r3, r4, r5, r6, r7, r8⟩, hs, hi, n3, n4⟩ := Make_both a0 a1 a2
  simp only at n3 n4
  obtain ⟨y2, y3, n, hm, hh, hn⟩ := markFig_f r1 r2 r3 r4 299 (by omega) (by omega) (by omega)
  have e1 := eqFig_f r1 r2 r3 r4 300 (by omega) (by omega) (by omega)
  have e2 := eqFig_f r1 r2 r3 r4 299 (by omega) (by omega) (by omega)
  have q1 : laws_eqPuzzle.f 300 r1 r2 r3 r4 r5 r6 r7 r1 r2 r3 r4 r5 r6 r7 = some true := by unfold laws_eqPuzzle.f; rw [e1, bnd]; simp
  have q2 : laws_eqPuzzle.f 299 r1 r2 r3 r4 r5 r6 r7 r1 r2 r3 r4 r5 r6 r7 = some true := by unfold laws_eqPuzzle.f; rw [e2, bnd]; simp
  have q3 : laws_markPuzzle.f 299 r1 r2 r3 r4 r5 r6 r7 101 = some (n, y2, y3) := by unfold laws_markPuzzle.f; rw [hm, bnd]
  have q4 : ∀ k, 42 ≤ k → laws_heldPuzzle.f k r1 r2 y2 y3 r5 r6 r7 101 = some n := fun k hk => by unfold laws_heldPuzzle.f; rw [hh k (by omega), bnd, if_neg (by omega)]
  unfold laws_FnExactMakePuzzle.f
  rw [hs, hi 300 (by omega), bnd, bnd]
  simp only
  rw [q1, bnd, if_pos rfl]
  have hne : (r8 != r8) = false := by cases r8 <;> rfl
  rw [hne]
  simp only [laws_FnExactMakePuzzle.j0, Bool.false_eq_true, if_false]
  rw [q3, bnd]
  simp only
  rw [q4 299 (by omega), bnd, if_neg (by omega), if_pos rfl, hi 299 (by omega), bnd]
  simp only
  rw [q2, bnd, if_pos rfl, hne]
  simp only [laws_FnExactMakePuzzle.j1, Bool.false_eq_true, if_false]
  rw [q4 298 (by omega), bnd, if_neg (by omega), if_pos rfl]

/-! The table that the row lists, and a start that fits. -/
abbrev LAID : List (String × DataW Unit) := [("math/bits.deBruijn64tab", Rows.laid_math_bits_deBruijn64tab)]
theorem tz_of_laid {W : World} (hL : laidMet Tryd.prog LAID W) : TzTab W := by
  have hg : Tryd.prog.globalNamed "math/bits.deBruijn64tab" = some 0 := by kernel_rfl
  have hT : Lib.TabIs Tryd.prog W "math/bits.deBruijn64tab" .u8 (Lib.deBruijn64tab.map fun n : Nat => (n : Int)) :=
    Lib.tabIs_of_head (rest := []) (n := 64) hg (t := 61) (by kernel_rfl) (e := 5) Tryd.underlying61 Tryd.underlying5 (by kernel_rfl) (by kernel_rfl) hL
  intro j hj
  have h := hT.cell hg j (by simpa using hj)
  rw [h]
  congr 2
  simp [List.getD, hj]
noncomputable def laidWorld (os : Os) : World :=
  { World.holding Tryd.prog os ⟨#[], #[], []⟩ with heap := (World.holding Tryd.prog os ⟨#[], #[], []⟩).heap.modify 0 fun
      | .cells _ t frozen => .cells (Lib.deBruijn64tab.map fun z : Nat => Value.int .u8 (z : Int)).toArray t frozen
      | o => o }
theorem laid_met (os : Os) (args : Array Value) : laidMet Tryd.prog LAID ((laidWorld os).forCall (fun _ _ => 0) ⟨#[], args, []⟩).memory :=
  (LaidIn.of_run [0] 8 (by kernel_rfl) (by kernel_rfl) (by kernel_rfl) (by kernel_rfl)).met
theorem own : ownKnob Tryd.prog.godebug = none := by kernel_rfl
theorem laidOut : laidOutB Tryd.prog = true := by kernel_rfl

theorem MakePuzzle_call {W : World} (hT : TzTab W) (s0 : Int) (s1 : Int) (s2 : Int) (ws0 : (Lit.int .i64 s0).wf = true) (ws1 : (Lit.int .i64 s1).wf = true) (ws2 : (Lit.int .i64 s2).wf = true) :
    Calls Tryd.prog 4 #[.int .i64 s0, .int .i64 s1, .int .i64 s2] W fun e W' => e = .returned (.bool true) ∧ Below W.heap.size W W' :=
  laws_FnExactMakePuzzle.calls 300 s0 s1 s2 W hT (MakePuzzle_law s0 s1 s2)
set_option maxRecDepth 100000 in
theorem lifted (os : Os) (started : os.Started) (H : Type) (enc : TypeId × Value → H) (F : Stop.Interp) :
    ReturnsInHanded {} Tryd.checked os 4 .any ((OpenSpec.ofChange Rows.fnExactMakePuzzleSpec).preRow enc Tryd.prog Tryd.f4 Rows.fnExactMakePuzzleRow.domain false LAID) (((OpenSpec.ofChange Rows.fnExactMakePuzzleSpec).at F).post enc Tryd.prog Tryd.f4 false true false false) := by
  refine returnsInHanded_of_row (C := Tryd.checked) (s := OpenSpec.ofChange Rows.fnExactMakePuzzleSpec) own started (by kernel_rfl) Tryd.func4
    (witness_row_at (enc := enc) (C := Tryd.checked) false (laidWorld os) #[.int .i64 0, .int .i64 0, .int .i64 0] rfl (by kernel_rfl) (by kernel_rfl) (by kernel_rfl)
      (OpenSpec.preRow_of_B rfl 8 (by kernel_rfl) (by kernel_rfl) (laid_met os _))) ?_
  intro W base args ds gs before hval0 hW _ _ hsz0 hL _ _
  have hval : ∀ (j : Nat) t v, Tryd.f4.params[j]? = some t → args[j]? = some v → Value.okWide Tryd.prog W .any base t v := hval0
  have hW' := hW
  obtain ⟨p, q, hA0, hV, rfl, hfz, hnd⟩ := hW
  have hA : DataW.TrodAll enc Tryd.prog W 0 (fun _ => true) true Tryd.f4.params.toList args.toList ds p := hA0
  rw [Tryd.params4] at hA hval
  obtain ⟨v0, vs0, d0, ds0, p0, q0, hargs, rfl, rfl, h0, t0⟩ := trodAll_cons hA
  obtain ⟨v1, vs1, d1, ds1, p1, q1, rfl, rfl, rfl, h1, t1⟩ := trodAll_cons t0
  obtain ⟨v2, vs2, d2, ds2, p2, q2, rfl, rfl, rfl, h2, t2⟩ := trodAll_cons t1
  obtain ⟨rfl, rfl, rfl⟩ := trodAll_nil t2
  obtain rfl : args = #[v0, v1, v2] := by cases args; simp_all
  obtain ⟨rfl, rfl⟩ := trodVars_none hV
  obtain ⟨s0, rfl, rfl, rfl, ws0⟩ := open_int Tryd.underlying3 (hval 0 3 v0 rfl rfl) h0
  obtain ⟨s1, rfl, rfl, rfl, ws1⟩ := open_int Tryd.underlying3 (hval 1 3 v1 rfl rfl) h1
  obtain ⟨s2, rfl, rfl, rfl, ws2⟩ := open_int Tryd.underlying3 (hval 2 3 v2 rfl rfl) h2
  clear hA0 hval0 hsz0
  refine (MakePuzzle_call (tz_of_laid hL) s0 s1 s2  ws0 ws1 ws2).mono fun e W' ⟨he, bel⟩ => ?_
  subst he
  exact ⟨_, rfl, _, _, _, [], _, [], hW', trodAll_mk1 (shut_bool Tryd.underlying4 _), (trodAll_cons_mk (shut_int Tryd.underlying3 ws0) (trodAll_cons_mk (shut_int Tryd.underlying3 ws1) (trodAll_cons_mk (shut_int Tryd.underlying3 ws2) trodAll_mk0))), rfl, bel.frame _, fun h => by cases h⟩
theorem over : Rows.fnExactMakePuzzleRow.holds Tryd.pinned (OpenSpec.ofChange Rows.fnExactMakePuzzleSpec) :=
  OpenClaim.holds_of_wide 4 Tryd.f4 rfl rfl rfl rfl rfl rfl rfl ⟨rfl, rfl, rfl, rfl, rfl⟩ rfl rfl rfl rfl rfl (by kernel_rfl) Tryd.func4 (by kernel_rfl)
    (of_decide_eq_true (by kernel_rfl)) (by unfold Func.isWrapper; first | (rw [if_pos (by decide +kernel)]; kernel_rfl) | (rw [if_neg (by decide +kernel)]; exact ⟨rfl, rfl⟩))
    (fun os started H enc _ => lifted os started H enc (fun _ _ _ => 0))
theorem proved : Rows.FnExactMakePuzzleCardSaid :=
  Claim7.holds_tied_plain_at .later [] [.data] true (true, "cb09cc3963aea7a3a6cae219bae116f4ac8d6d41a3569e759464a4017e6ba215") false
    over (fun _ h => by cases h) (by kernel_rfl) (fun _ h => by cases h) fnExactMakePuzzle_row_tie rfl ⟨rfl, rfl⟩ (by kernel_rfl) rfl
    (fun f fn hf hfn => by
      obtain rfl : f = 4 := Option.some.inj ((show Tryd.prog.funcNamed "loop.example/g01233/laws.FnExactMakePuzzle" = some 4 by kernel_rfl).symm.trans hf) |>.symm
      obtain rfl : fn = Tryd.f4 := (Option.some.inj (Tryd.func4.symm.trans hfn)).symm
      exact ⟨by kernel_rfl, fun j t ht => by
        rw [Tryd.params4] at ht
        rcases j with _ | j
        · have e : t = 3 := by simpa using ht.symm
          subst e
          exact (show Tryd.prog.wantsStandIn 3 = false by kernel_rfl)
        rcases j with _ | j
        · have e : t = 3 := by simpa using ht.symm
          subst e
          exact (show Tryd.prog.wantsStandIn 3 = false by kernel_rfl)
        rcases j with _ | j
        · have e : t = 3 := by simpa using ht.symm
          subst e
          exact (show Tryd.prog.wantsStandIn 3 = false by kernel_rfl)
        simp at ht⟩)
    (by kernel_rfl)

end Go.Proofs.YtkmebbadjejheaaDoor.B
namespace Go.Proofs.YtkmebbadjejheaaDoor
/-- The row, under a short name, for the claim. -/
theorem fnExactMakePuzzle_holds : Rows.FnExactMakePuzzleCardSaid := B.proved
#print axioms fnExactMakePuzzle_holds
end Go.Proofs.YtkmebbadjejheaaDoor
