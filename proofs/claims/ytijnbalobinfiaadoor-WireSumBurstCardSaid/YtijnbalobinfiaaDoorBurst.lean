import Derived.Test.YtijnbalobinfiaaDoorWireCut
/-
  What a burst of changed bits does to a string's number and to its checksum.
-/
namespace Go.Proofs.YtijnbalobinfiaaDoor.WireSpec
open Go.RowKit Go.Proofs.YtijnbalobinfiaaDoor.Ext
theorem num_set (d : Nat) : ∀ (l : List Nat) (q : Nat), q < l.length → Crc.num (l.set q (l.getD q 0 ^^^ d)) = Crc.num l ^^^ (d <<< (8 * q)) := by
  intro l
  induction l with
  | nil => intro q h; simp at h
  | cons b l ih =>
    intro q h
    cases q with
    | zero =>
      simp only [List.getD_cons_zero, List.set_cons_zero, Crc.num, Nat.mul_zero, Nat.shiftLeft_zero]
      rw [Nat.xor_assoc, Nat.xor_assoc, Nat.xor_comm d]
    | succ q =>
      simp only [List.getD_cons_succ, List.set_cons_succ, Crc.num]
      rw [ih q (by simpa using h), Nat.shiftLeft_xor_distrib, ← Nat.shiftLeft_add, Nat.xor_assoc]
      rfl
theorem bit_on {B j : Nat} (h : B / 2 ^ j % 2 = 1) : B % 2 ^ (j + 1) = (B % 2 ^ j) ^^^ 2 ^ j := by
  have hlt : B % 2 ^ j < 2 ^ j := Nat.mod_lt _ (Nat.two_pow_pos j)
  have h1 : B % 2 ^ (j + 1) = 2 ^ j * 1 + B % 2 ^ j := by rw [Nat.mod_pow_succ, h]; omega
  rw [h1, Nat.two_pow_add_eq_or_of_lt hlt, Nat.mul_one]
  apply Nat.eq_of_testBit_eq
  intro i
  simp only [Nat.testBit_or, Nat.testBit_xor, Nat.testBit_two_pow]
  by_cases hij : j = i
  · subst hij
    rw [Nat.testBit_lt_two_pow hlt]
    simp
  · simp [hij]
theorem bit_off {B j : Nat} (h : ¬ B / 2 ^ j % 2 = 1) : B % 2 ^ (j + 1) = B % 2 ^ j := by
  rw [Nat.mod_pow_succ, show B / 2 ^ j % 2 = 0 by omega]
  omega
theorem on_pos {B j : Nat} (h : B / 2 ^ j % 2 = 1) : B % 2 ^ (j + 1) ≠ 0 := by
  rw [Nat.mod_pow_succ, h]
  have := Nat.two_pow_pos j
  omega
theorem bsN_zero (n : Nat) : Crc.bsN n 0 = 0 := by
  induction n with
  | zero => rfl
  | succ n ih => simpa [Crc.bsN, Crc.bs] using ih
theorem burst_sum (l S : List Nat) (p c j : Nat) (hl : l.length = S.length) (hn : Crc.num l = Crc.num S ^^^ (p <<< c)) (hp : p < 2 ^ j) (hj : j ≤ 32) (hc : c ≤ 8 * S.length) : Crc.sum l = Crc.sum S ↔ p = 0 := by
  rw [Crc.sum_differs l S hl, hn, Nat.xor_comm (Crc.num S), Nat.xor_assoc, Nat.xor_self, Nat.xor_zero, hl]
  constructor
  · intro h
    by_cases h0 : p = 0
    · exact h0
    · exact absurd h (Crc.burst _ c p hc (Nat.lt_of_lt_of_le hp (Nat.pow_le_pow_right (by decide) hj)) h0)
  · rintro rfl
    rw [Nat.zero_shiftLeft, bsN_zero]
theorem num_step (l S : List Nat) (B c j q r : Nat) (hq : q < l.length) (he : c + j = 8 * q + r) (hn : Crc.num l = Crc.num S ^^^ ((B % 2 ^ j) <<< c)) (h : B / 2 ^ j % 2 = 1) :
    Crc.num (l.set q (l.getD q 0 ^^^ 2 ^ r)) = Crc.num S ^^^ ((B % 2 ^ (j + 1)) <<< c) := by
  rw [num_set _ l q hq, hn, bit_on h, Nat.shiftLeft_xor_distrib, Nat.xor_assoc]
  congr 2
  rw [Nat.shiftLeft_eq, Nat.shiftLeft_eq, ← Nat.pow_add, ← Nat.pow_add]
  congr 1
  omega
theorem u8_flip (v r : Nat) (hv : v < 256) (hr : r < 8) : Go.bits .xor .u8 (v : Int) (IntKind.u8.wrap (2 ^ r)) = ((v ^^^ 2 ^ r : Nat) : Int) := by
  have hp : 2 ^ r < 256 := Nat.lt_of_lt_of_le (Nat.pow_lt_pow_right (by decide) hr) (by decide)
  have : IntKind.u8.wrap (2 ^ r) = ((2 ^ r : Nat) : Int) := by
    rw [show (2 : Int) ^ r = ((2 ^ r : Nat) : Int) by simp, IntKind.wrap_u8]
    generalize 2 ^ r = y at hp ⊢
    omega
  rw [this, u8_xor_nat v (2 ^ r) hv hp]
theorem flip_lt (v r : Nat) (hv : v < 256) (hr : r < 8) : v ^^^ 2 ^ r < 256 := Nat.xor_lt_two_pow (n := 8) hv (Nat.lt_of_lt_of_le (Nat.pow_lt_pow_right (by decide) hr) (by decide))
end Go.Proofs.YtijnbalobinfiaaDoor.WireSpec
