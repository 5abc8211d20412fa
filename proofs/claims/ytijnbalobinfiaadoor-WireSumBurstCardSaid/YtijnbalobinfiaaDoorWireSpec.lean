import Derived.Test.YtijnbalobinfiaaDoorPWx2
import Derived.Test.YtijnbalobinfiaaDoorPWx10
import Derived.Test.YtijnbalobinfiaaDoorPWx11
import Derived.Test.YtijnbalobinfiaaDoorPWx14
import Derived.Test.YtijnbalobinfiaaDoorLeb
import Derived.Laws.BitsAllLaws
import Derived.Laws.DeepNot64
/-
  What the printed functions of package wire and of its reference come to.
-/
set_option linter.unusedVariables false
set_option linter.unusedSimpArgs false
namespace Go.Proofs.YtijnbalobinfiaaDoor.WireSpec
open Go.RowKit Go.Proofs.YtijnbalobinfiaaDoorW.PrintWords Go.Proofs.YtijnbalobinfiaaDoorW.PrintLast Go.Proofs.YtijnbalobinfiaaDoorW.PrintMore Go.Proofs.YtijnbalobinfiaaDoor.Ext Go.Proofs.YtijnbalobinfiaaDoor.PW Leb

theorem w64 {x : Int} (h1 : -9223372036854775808 ≤ x) (h2 : x < 9223372036854775808) : wrap64 x = x := by unfold wrap64; omega
theorem bt_at_nat (s : ByteArray) (i : Nat) (h : i < s.size) : bt s (i : Int) = (((nat s)[i]'(by rw [nat_length]; exact h) : Nat) : Int) := by
  rw [nat_at s i h]
  unfold bt
  simp [h]
theorem drop_cons {s : ByteArray} {a : Nat} {pre rest : List Nat} {b : Nat} (h : (nat s).drop a = pre ++ b :: rest) : ∃ hl : a + pre.length < s.size, (nat s)[a + pre.length]'(by rw [nat_length]; exact hl) = b ∧ b < 256 := by
  have hl : a + pre.length < s.size := by
    have := congrArg List.length h
    simp [nat_length] at this
    omega
  refine ⟨hl, ?_, ?_⟩
  · have := congrArg (fun l => l[pre.length]?) h
    simp only [List.getElem?_drop, List.getElem?_append_right (Nat.le_refl _), Nat.sub_self, List.getElem?_cons_zero] at this
    exact (List.getElem?_eq_some_iff.1 this).2
  · have : b ∈ (nat s).drop a := by rw [h]; simp
    exact nat_lt s b (List.mem_of_mem_drop this)

/-- the first code, by its bytes: at most f more of them are looked at -/
def scan : Nat → List Nat → List Nat → Option (List Nat)
  | 0, _, _ => none
  | _ + 1, _, [] => none
  | f + 1, pre, b :: l => if 128 ≤ b then scan f (pre ++ [b]) l else some (pre ++ [b])
/-- what a decoder answers -/
def fin (a : Nat) : Option (List Nat) → Int × Int × Int
  | none => (0, 0, 10)
  | some c => if leb (val c) = c ∧ val c < 9223372036854775807 then (zag (val c), ((a + c.length : Nat) : Int), 0) else (0, 0, 10)

theorem val_snoc (l : List Nat) (b : Nat) : val (l ++ [b]) = val l + b % 128 * 128 ^ l.length := by
  induction l with
  | nil => simp [val]
  | cons c l ih =>
    simp only [List.cons_append, val, ih, List.length_cons, Nat.pow_succ]
    rw [Nat.mul_add, ← Nat.add_assoc]
    congr 1
    rw [Nat.mul_left_comm, Nat.mul_comm 128]
theorem val_lt (l : List Nat) : val l < 128 ^ l.length := by
  induction l with
  | nil => simp [val]
  | cons c l ih => simp only [val, List.length_cons, Nat.pow_succ]; omega
theorem pow7 (i : Nat) : (128 : Nat) ^ i = 2 ^ (7 * i) := by rw [Nat.pow_mul]

/-- the next group is put in -/
theorem acc_step (x b i : Nat) (hx : x < 128 ^ i) (hi : i ≤ 8) (hb : b < 256) :
    Go.bits .or .u64 (x : Int) (shl .u64 (IntKind.u64.wrap (Go.bits .and .u8 (b : Int) 127)) (wrap64 (7 * (i : Int)))) = ((x + b % 128 * 128 ^ i : Nat) : Int) := by
  have e1 : Go.bits .and .u8 (b : Int) 127 = ((b % 128 : Nat) : Int) := by
    have := u8_and_nat b 127 hb (by decide)
    rw [nat_mask7] at this
    exact this
  have e2 : wrap64 (7 * (i : Int)) = ((7 * i : Nat) : Int) := by unfold wrap64; omega
  have hp : 128 ^ i ≤ 128 ^ 8 := Nat.pow_le_pow_right (by decide) hi
  have hm : b % 128 * 128 ^ i < 18446744073709551616 := by
    have : b % 128 * 128 ^ i ≤ 127 * 128 ^ 8 := Nat.mul_le_mul (by omega) hp
    omega
  have e3 : shl .u64 (IntKind.u64.wrap ((b % 128 : Nat) : Int)) ((7 * i : Nat) : Int) = ((b % 128 * 128 ^ i : Nat) : Int) := by
    have hx1 : IntKind.u64.wrap ((b % 128 : Nat) : Int) = ((b % 128 : Nat) : Int) := by rw [IntKind.wrap_u64]; omega
    unfold shl
    rw [hx1]
    have h64 : min ((7 * i : Nat) : Int).toNat IntKind.u64.bits = 7 * i := by simp [IntKind.bits]; omega
    rw [h64, show ((2 : Int) ^ (7 * i)) = ((128 ^ i : Nat) : Int) by rw [pow7]; simp, ← Int.natCast_mul, IntKind.wrap_u64]
    generalize b % 128 * 128 ^ i = q at hm ⊢
    omega
  rw [e1, e2, e3, u64_or_nat _ _ (by omega) hm, Nat.or_comm]
  congr 1
  rw [pow7] at hx ⊢
  rw [Nat.mul_comm (b % 128), ← Nat.two_pow_add_eq_or_of_lt hx, Nat.add_comm]
theorem zag_bits (z : Nat) (h : z < 9223372036854775808) :
    Go.bits .xor .i64 (wrap64 ((z : Int) / 2)) (wrap64 (-(wrap64 (Go.bits .and .u64 (z : Int) 1)))) = zag z := by
  have e1 : Go.bits .and .u64 (z : Int) 1 = ((z % 2 : Nat) : Int) := by
    have := u64_and_nat z 1 (by omega) (by decide)
    rw [nat_mask1] at this
    exact this
  have e2 : wrap64 ((z : Int) / 2) = ((z / 2 : Nat) : Int) := by unfold wrap64; omega
  rw [e1, e2]
  unfold zag
  rcases Nat.mod_two_eq_zero_or_one z with h0 | h0
  · rw [h0, if_neg (by decide)]
    have : wrap64 (-(wrap64 ((0 : Nat) : Int))) = 0 := by unfold wrap64; decide
    rw [this]
    show IntKind.i64.wrap ((BitVec.ofInt 64 ((z / 2 : Nat) : Int) ^^^ BitVec.ofInt 64 0).toNat : Int) = _
    have h2 : BitVec.ofInt 64 0 = 0#64 := by decide
    rw [h2, BitVec.xor_zero, ofInt_u64 _ (by omega), IntKind.wrap_i64]
    omega
  · rw [h0, if_pos rfl]
    have : wrap64 (-(wrap64 ((1 : Nat) : Int))) = -1 := by unfold wrap64; decide
    rw [this]
    have hn := i64_not (z / 2) (by omega)
    have hc : Go.bits .xor .i64 ((z / 2 : Nat) : Int) (-1) = Go.bits .xor .i64 (-1) ((z / 2 : Nat) : Int) := by
      show IntKind.i64.wrap _ = IntKind.i64.wrap _
      simp only [BitVec.xor_comm]
    rw [hc, hn]
    omega
theorem zag_low (z : Nat) (h : z < 9223372036854775808) : zag z < -4611686018427387903 ↔ ¬ z < 9223372036854775807 := by
  unfold zag; split <;> omega

/-- bytes that go on, and a last one that doesn't: a code just where the last one is not a needless zero -/
theorem canon {pre : List Nat} {b : Nat} (hp : ∀ x ∈ pre, 128 ≤ x ∧ x < 256) (hb : b < 128) : leb (val (pre ++ [b])) = pre ++ [b] ↔ (b ≠ 0 ∨ pre = []) := by
  constructor
  · intro h
    by_cases h0 : b = 0
    · right
      subst h0
      cases pre with
      | nil => rfl
      | cons c l =>
        exfalso
        have hv : val (c :: l ++ [0]) = val (c :: l) := by rw [val_snoc]; simp
        have hlt := val_lt (c :: l)
        have hlen := leb_length l.length (val (c :: l)) (by simpa using hlt)
        rw [hv] at h
        have := congrArg List.length h
        simp at this
        omega
    · exact .inl h0
  · intro h
    apply leb_val
    induction pre with
    | nil => exact hb
    | cons c l ih =>
      have hc := hp c (by simp)
      have h0 : b ≠ 0 := by
        rcases h with h | h
        · exact h
        · cases h
      have hl := ih (fun x hx => hp x (by simp [hx])) (.inl h0)
      cases l with
      | nil => exact ⟨hc.1, hc.2, hl, by simpa using h0⟩
      | cons d l => exact ⟨hc.1, hc.2, hl, by simp⟩

set_option maxRecDepth 10000 in
theorem int_loop (s : ByteArray) (hs : s.size ≤ 140737488351232) (a : Nat) (ha : a ≤ s.size) (f : Nat) : ∀ (k : Nat) (pre rest : List Nat), pre.length + f = 9 → f < k → (nat s).drop a = pre ++ rest → (∀ b ∈ pre, 128 ≤ b ∧ b < 256) →
    wire_Int.l0 k s (a : Int) (val pre : Nat) (pre.length : Nat) = some (fin a (scan f pre rest)) := by
  induction f with
  | zero =>
    intro k pre rest hi hk hd hp
    obtain ⟨k, rfl⟩ : ∃ m, k = m + 1 := ⟨k - 1, by omega⟩
    simp only [wire_Int.l0]
    rw [if_neg (by omega)]
    rfl
  | succ f ih =>
    intro k pre rest hi hk hd hp
    obtain ⟨k, rfl⟩ : ∃ m, k = m + 1 := ⟨k - 1, by omega⟩
    have hlen := congrArg List.length hd
    simp only [List.length_drop, nat_length, List.length_append] at hlen
    have hw7 : 0 ≤ wrap64 (7 * (pre.length : Int)) := by rw [w64 (by omega) (by omega)]; omega
    have hw : wrap64 ((a : Int) + (pre.length : Int)) = ((a + pre.length : Nat) : Int) := by unfold wrap64; omega
    simp only [wire_Int.l0]
    rw [if_pos (by omega), hw]
    cases rest with
    | nil =>
      simp only [List.length_nil] at hlen
      rw [if_pos (by omega)]
      rfl
    | cons b rest =>
      simp only [List.length_cons] at hlen
      obtain ⟨hl, hb, hb256⟩ := drop_cons hd
      have hbt : bt s ((a + pre.length : Nat) : Int) = (b : Int) := by rw [bt_at_nat s _ hl, hb]
      have hpl := val_lt pre
      rw [if_neg (by omega), if_pos (by omega), if_pos (by omega), if_pos hw7, hbt, acc_step _ _ _ hpl (by omega) hb256, ← val_snoc]
      have h64 : val (pre ++ [b]) < 9223372036854775808 := by
        have h1 := val_lt (pre ++ [b])
        have h2 : 128 ^ (pre ++ [b]).length ≤ 128 ^ 9 := Nat.pow_le_pow_right (by decide) (by simp; omega)
        omega
      by_cases h128 : 128 ≤ b
      · rw [if_pos (by omega)]
        have hw2 : wrap64 ((pre.length : Int) + 1) = ((pre ++ [b]).length : Nat) := by unfold wrap64; simp; omega
        rw [hw2, ih k (pre ++ [b]) rest (by simp; omega) (by omega) (by rw [hd]; simp) (fun x hx => by
          rcases List.mem_append.1 hx with hx | hx
          · exact hp x hx
          · have := List.mem_singleton.1 hx; subst this; exact ⟨h128, hb256⟩)]
        simp only [scan, if_pos h128]
      · rw [if_neg (by omega), zag_bits _ h64]
        have hc := canon hp (b := b) (by omega)
        have hz := zag_low _ h64
        have hw3 : wrap64 (((a + pre.length : Nat) : Int) + 1) = ((a + (pre ++ [b]).length : Nat) : Int) := by unfold wrap64; simp; omega
        simp only [scan, if_neg h128, fin]
        rw [hw3]
        by_cases h0 : b = 0
        · subst h0
          rw [if_pos (by rfl)]
          cases pre with
          | nil =>
            rw [if_neg (by simp)]
            by_cases hbig : val ([] ++ [0]) < 9223372036854775807
            · rw [if_neg (by rw [hz]; omega), if_pos ⟨hc.2 (.inr rfl), hbig⟩]
            · rw [if_pos (by rw [hz]; omega), if_neg (fun h => hbig h.2)]
          | cons c l =>
            rw [if_pos (by simp), if_neg (fun h => by rcases hc.1 h.1 with h | h; exact h rfl; cases h)]
        · rw [if_neg (by omega)]
          by_cases hbig : val (pre ++ [b]) < 9223372036854775807
          · rw [if_neg (by rw [hz]; omega), if_pos ⟨hc.2 (.inl h0), hbig⟩]
          · rw [if_pos (by rw [hz]; omega), if_neg (fun h => hbig h.2)]

/-- what Int answers -/
def dec (s : ByteArray) (at_ : Int) : Int × Int × Int := if at_ < 0 ∨ at_ > (s.size : Int) then (0, 0, 2) else fin at_.toNat (scan 9 [] ((nat s).drop at_.toNat))
theorem int_is (s : ByteArray) (hs : s.size ≤ 140737488351232) (at_ : Int) (k : Nat) (hk : 12 ≤ k) : wire_Int.f k s at_ = some (dec s at_) := by
  obtain ⟨k, rfl⟩ : ∃ m, k = m + 1 := ⟨k - 1, by omega⟩
  unfold wire_Int.f dec
  by_cases h1 : at_ < 0
  · rw [if_pos h1, if_pos (.inl h1)]
    simp [wire_Int.j0]
  · rw [if_neg h1]
    by_cases h2 : at_ > (s.size : Int)
    · rw [if_pos (.inr h2)]
      simp [wire_Int.j0, h2]
    · rw [if_neg (by omega)]
      obtain ⟨a, rfl⟩ := Int.eq_ofNat_of_zero_le (show 0 ≤ at_ by omega)
      rw [Int.toNat_natCast, ← int_loop s hs a (by omega) 9 k [] _ rfl (by omega) rfl (fun _ h => by cases h)]
      simp only [wire_Int.j0]
      rw [if_neg (by simpa using h2)]
      rfl
end Go.Proofs.YtijnbalobinfiaaDoor.WireSpec
