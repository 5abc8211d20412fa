import Derived.Test.YtijnbalobinfiaaDoorWireCut
import Derived.Test.YtijnbalobinfiaaDoorPWx9
import Derived.Test.YtijnbalobinfiaaDoorPWx10
import Derived.Test.YtijnbalobinfiaaDoorPWx11
import Derived.Test.YtijnbalobinfiaaDoorPWx12
import Derived.Test.YtijnbalobinfiaaDoorPWx13
import Derived.Test.YtijnbalobinfiaaDoorPWx14
import Derived.Test.YtijnbalobinfiaaDoorPWx15
/-
  What the functions of the reference come to.
-/
set_option linter.unusedVariables false
set_option linter.unusedSimpArgs false
namespace Go.Proofs.YtijnbalobinfiaaDoor.WireSpec
open Go.RowKit Go.Proofs.YtijnbalobinfiaaDoorW.PrintWords Go.Proofs.YtijnbalobinfiaaDoorW.PrintLast Go.Proofs.YtijnbalobinfiaaDoorW.PrintMore Go.Proofs.YtijnbalobinfiaaDoor.Ext Go.Proofs.YtijnbalobinfiaaDoor.PW Leb

theorem str_nums (l : List Nat) : strOfNums (l.map fun n : Nat => (n : Int)) = str l := by
  unfold strOfNums str
  rw [List.map_map]
  rfl
theorem tdiv_nat (z d : Nat) : Int.tdiv (z : Int) (d : Int) = ((z / d : Nat) : Int) := rfl
theorem tmod_nat (z d : Nat) : Int.tmod (z : Int) (d : Int) = ((z % d : Nat) : Int) := rfl

theorem ref_put_loop (k : Nat) : ∀ (z : Nat) (out : List Nat), (leb z).length ≤ k → z < 9223372036854775808 → out.length + k < 1000000 →
    aircheckref01_PutInt.l0 k (z : Int) (out.map fun n : Nat => (n : Int)) = some (str (out ++ leb z), 0) := by
  induction k with
  | zero => intro z out h; have := List.length_pos_iff.2 (leb_ne z); omega
  | succ k ih =>
    intro z out h hz ho
    simp only [aircheckref01_PutInt.l0, List.length_map]
    by_cases h1 : z < 128
    · have hb : ((z : Int)) % 256 = ((z : Nat) : Int) := by omega
      rw [if_neg (by omega), if_pos (by omega), hb, leb_small h1, ← str_nums]
      simp
    · have e1 : IntKind.u64.wrap (Int.tdiv (z : Int) 128) = ((z / 128 : Nat) : Int) := by
        rw [show (128 : Int) = ((128 : Nat) : Int) from rfl, tdiv_nat, IntKind.wrap_u64]; omega
      have e2 : (IntKind.u64.wrap ((Int.tmod (z : Int) 128) + 128)) % 256 = ((z % 128 + 128 : Nat) : Int) := by
        rw [show (Int.tmod (z : Int) 128) = ((z % 128 : Nat) : Int) from tmod_nat z 128, IntKind.wrap_u64]; omega
      rw [if_pos (by omega), if_pos (by omega), e1, e2]
      have := ih (z / 128) (out ++ [z % 128 + 128]) (by rw [leb_big h1] at h; simpa using h) (by omega) (by simp; omega)
      rw [List.map_append, List.map_singleton] at this
      rw [this, leb_big h1]
      simp
theorem ref_zig {a : Int} (h0 : -4611686018427387903 ≤ a) (h1 : a ≤ 4611686018427387903) : aircheckref01_zigzag.f a = some ((zig a : Nat) : Int) := by
  unfold aircheckref01_zigzag.f zig
  by_cases h : a < 0
  · rw [if_pos h, if_pos h, w64 (x := -a) (by omega) (by omega)]
    simp only [IntKind.wrap_u64]
    congr 1; omega
  · rw [if_neg h, if_neg h]
    simp only [IntKind.wrap_u64]
    congr 1; omega
theorem ref_put (a : Int) (k : Nat) (hk : 12 ≤ k) (hk2 : k < 100000) : aircheckref01_PutInt.f k a = wire_PutInt.f a := by
  obtain ⟨k, rfl⟩ : ∃ m, k = m + 1 := ⟨k - 1, by omega⟩
  unfold aircheckref01_PutInt.f wire_PutInt.f
  by_cases h0 : a < -4611686018427387903
  · rw [if_pos h0, if_pos h0, aircheckref01_PutInt.j0, if_pos rfl]
  · rw [if_neg h0, if_neg h0, aircheckref01_PutInt.j0]
    by_cases h1 : a > 4611686018427387903
    · rw [if_pos h1, if_pos (by simpa using h1)]
    · rw [if_neg h1, if_neg (by simpa using h1), ref_zig (by omega) (by omega), Option.bind_some]
      have hz := zig_range (n := a) (by omega) (by omega)
      have := ref_put_loop k (zig a) [] (by have := leb_len9 hz; omega) (by omega) (by simp; omega)
      exact this

/-- the next group is put in -/
theorem ref_acc (x b i : Nat) (hx : x < 128 ^ i) (hi : i ≤ 8) (hb : b < 256) :
    IntKind.u64.wrap ((x : Int) + (shl .u64 (Int.tmod (IntKind.u64.wrap (b : Int)) 128) (wrap64 (7 * (i : Int))))) = ((x + b % 128 * 128 ^ i : Nat) : Int) := by
  have e1 : Int.tmod (IntKind.u64.wrap (b : Int)) 128 = ((b % 128 : Nat) : Int) := by
    rw [show IntKind.u64.wrap (b : Int) = (b : Int) by rw [IntKind.wrap_u64]; omega]
    exact tmod_nat b 128
  have e2 : wrap64 (7 * (i : Int)) = ((7 * i : Nat) : Int) := by unfold wrap64; omega
  have hp : 128 ^ i ≤ 128 ^ 8 := Nat.pow_le_pow_right (by decide) hi
  have hm : b % 128 * 128 ^ i ≤ 9151314442816847872 := by
    have : b % 128 * 128 ^ i ≤ 127 * 128 ^ 8 := Nat.mul_le_mul (by omega) hp
    omega
  have e3 : shl .u64 ((b % 128 : Nat) : Int) ((7 * i : Nat) : Int) = ((b % 128 * 128 ^ i : Nat) : Int) := by
    unfold shl
    have h64 : min ((7 * i : Nat) : Int).toNat IntKind.u64.bits = 7 * i := by simp [IntKind.bits]; omega
    rw [h64, show ((2 : Int) ^ (7 * i)) = ((128 ^ i : Nat) : Int) by rw [pow7]; simp, ← Int.natCast_mul, IntKind.wrap_u64]
    generalize b % 128 * 128 ^ i = q at hm ⊢
    omega
  rw [e1, e2, e3, IntKind.wrap_u64]
  generalize b % 128 * 128 ^ i = q at hm ⊢
  generalize 128 ^ i = p at hx hp ⊢
  omega
/-- the end of the reference's decoder -/
theorem ref_end (s : ByteArray) (a : Nat) (c : List Nat) (k : Nat) (hk : 12 ≤ k) (hk2 : k < 100000) (n : Int) (hz : val c < 9223372036854775808) (hn : n = zag (val c)) (hl : a + c.length ≤ s.size) (hc : ((nat s).drop a).take c.length = c) :
    ((aircheckref01_PutInt.f k n).bind fun bt => (if bt.2 = 0 then (if (0 : Int) ≤ (a : Int) then (if (a : Int) ≤ ((a + c.length : Nat) : Int) then (if ((a + c.length : Nat) : Int) ≤ (s.size : Int) then (if bt.1.toList = (s.extract (a : Int).toNat ((a + c.length : Nat) : Int).toNat).toList then (some (n, ((a + c.length : Nat) : Int), (0 : Int))) else (some (0, 0, 10))) else (none)) else (none)) else (none)) else (some (0, 0, 10)))) = some (fin a (some c)) := by
  subst hn
  have hx : nat (s.extract a (a + c.length)) = c := by rw [nat_extract, Nat.add_sub_cancel_left, hc]
  simp only [fin, Int.toNat_natCast]
  by_cases h : val c < 9223372036854775807
  · rw [ref_put _ k hk hk2, put_zag h, Option.bind_some, if_pos rfl, if_pos (by omega), if_pos (by omega), if_pos (by omega)]
    simp only [toList_nat, nat_str _ (leb_bytes _), hx]
    by_cases h2 : leb (val c) = c
    · rw [if_pos h2, if_pos ⟨h2, h⟩]
    · rw [if_neg h2, if_neg (fun q => h2 q.1)]
  · have hlow := (zag_low _ hz).2 h
    rw [ref_put _ k hk hk2, show wire_PutInt.f (zag (val c)) = some (⟨#[]⟩, 10) by unfold wire_PutInt.f; rw [if_pos hlow], Option.bind_some, if_neg (by decide), if_neg (fun q => h q.2)]
theorem ref_zag (z : Nat) (h : z < 9223372036854775808) : (Int.tmod (z : Int) 2 = 1 ∧ wrap64 ((wrap64 (-(wrap64 (IntKind.u64.wrap (Int.tdiv (z : Int) 2))))) - 1) = zag z) ∨ (¬ Int.tmod (z : Int) 2 = 1 ∧ wrap64 (IntKind.u64.wrap (Int.tdiv (z : Int) 2)) = zag z) := by
  have e : IntKind.u64.wrap (Int.tdiv (z : Int) 2) = ((z / 2 : Nat) : Int) := by
    rw [show (2 : Int) = ((2 : Nat) : Int) from rfl, tdiv_nat, IntKind.wrap_u64]; omega
  rw [e, show Int.tmod (z : Int) 2 = ((z % 2 : Nat) : Int) from tmod_nat z 2]
  unfold zag
  rcases Nat.mod_two_eq_zero_or_one z with h0 | h0
  · right
    rw [h0, if_neg (by decide)]
    exact ⟨by decide, w64 (by omega) (by omega)⟩
  · left
    rw [h0, if_pos rfl, w64 (x := ((z / 2 : Nat) : Int)) (by omega) (by omega), w64 (x := -((z / 2 : Nat) : Int)) (by omega) (by omega), w64 (by omega) (by omega)]
    exact ⟨rfl, rfl⟩

set_option maxRecDepth 10000 in
theorem ref_loop (s : ByteArray) (hs : s.size ≤ 140737488351232) (a : Nat) (ha : a ≤ s.size) (f : Nat) : ∀ (k : Nat) (pre rest : List Nat), pre.length + f = 9 → 2 * f + 15 ≤ k → k < 100000 → (nat s).drop a = pre ++ rest → (∀ b ∈ pre, 128 ≤ b ∧ b < 256) →
    aircheckref01_Int.l0 k s (a : Int) (val pre : Nat) (pre.length : Nat) = some (fin a (scan f pre rest)) := by
  induction f with
  | zero =>
    intro k pre rest hi hk hk2 hd hp
    obtain ⟨k, rfl⟩ : ∃ m, k = m + 1 + 1 := ⟨k - 2, by omega⟩
    rw [aircheckref01_Int.l0, if_neg (by omega), aircheckref01_Int.j2, if_neg (by decide)]
    rfl
  | succ f ih =>
    intro k pre rest hi hk hk2 hd hp
    obtain ⟨k, rfl⟩ : ∃ m, k = m + 1 + 1 := ⟨k - 2, by omega⟩
    have hlen := congrArg List.length hd
    simp only [List.length_drop, nat_length, List.length_append] at hlen
    have hw7 : 0 ≤ wrap64 (7 * (pre.length : Int)) := by rw [w64 (by omega) (by omega)]; omega
    have hw : wrap64 ((a : Int) + (pre.length : Int)) = ((a + pre.length : Nat) : Int) := by unfold wrap64; omega
    rw [aircheckref01_Int.l0, if_pos (by omega), hw, aircheckref01_Int.j2, hw]
    cases rest with
    | nil =>
      simp only [List.length_nil] at hlen
      rw [if_neg (by simp; omega)]
      rfl
    | cons b rest =>
      simp only [List.length_cons] at hlen
      obtain ⟨hl, hb, hb256⟩ := drop_cons hd
      have hbt : bt s ((a + pre.length : Nat) : Int) = (b : Int) := by rw [bt_at_nat s _ hl, hb]
      have hpl := val_lt pre
      have hbw : IntKind.u64.wrap (b : Int) = (b : Int) := by rw [IntKind.wrap_u64]; omega
      rw [if_pos (by simp; omega), if_pos (by omega), if_pos (by omega), if_pos hw7, hbt, ref_acc _ _ _ hpl (by omega) hb256, ← val_snoc, hbw]
      have h64 : val (pre ++ [b]) < 9223372036854775808 := by
        have h1 := val_lt (pre ++ [b])
        have h2 : 128 ^ (pre ++ [b]).length ≤ 128 ^ 9 := Nat.pow_le_pow_right (by decide) (by simp; omega)
        omega
      by_cases h128 : 128 ≤ b
      · rw [if_pos (by omega)]
        have hw2 : wrap64 ((pre.length : Int) + 1) = ((pre ++ [b]).length : Nat) := by unfold wrap64; simp; omega
        rw [hw2, ih k (pre ++ [b]) rest (by simp; omega) (by omega) (by omega) (by rw [hd]; simp) (fun x hx => by
          rcases List.mem_append.1 hx with hx | hx
          · exact hp x hx
          · have := List.mem_singleton.1 hx; subst this; exact ⟨h128, hb256⟩)]
        simp only [scan, if_pos h128]
      · rw [if_neg (by omega)]
        have hw3 : wrap64 (((a + pre.length : Nat) : Int) + 1) = ((a + (pre ++ [b]).length : Nat) : Int) := by unfold wrap64; simp; omega
        have htk : ((nat s).drop a).take (pre ++ [b]).length = pre ++ [b] := by rw [hd, show pre ++ b :: rest = (pre ++ [b]) ++ rest by simp, List.take_left]
        have hll : a + (pre ++ [b]).length ≤ s.size := by rw [List.length_append]; exact hl
        simp only [scan, if_neg h128]
        rw [hw3]
        rcases ref_zag _ h64 with ⟨g1, g2⟩ | ⟨g1, g2⟩
        · rw [if_pos g1, ref_end s a (pre ++ [b]) k (by omega) (by omega) _ h64 g2 hll htk]
        · rw [if_neg g1, ref_end s a (pre ++ [b]) k (by omega) (by omega) _ h64 g2 hll htk]
theorem ref_int (s : ByteArray) (hs : s.size ≤ 140737488351232) (at_ : Int) (k : Nat) (hk : 50 ≤ k) (hk2 : k < 100000) : aircheckref01_Int.f k s at_ = some (dec s at_) := by
  obtain ⟨k, rfl⟩ : ∃ m, k = m + 1 := ⟨k - 1, by omega⟩
  unfold aircheckref01_Int.f dec
  by_cases h1 : at_ < 0
  · rw [if_pos h1, if_pos (.inl h1), aircheckref01_Int.j0, if_pos rfl]
  · rw [if_neg h1, aircheckref01_Int.j0]
    by_cases h2 : at_ > (s.size : Int)
    · rw [if_pos (c := decide (at_ > (s.size : Int)) = true) (by simpa using h2), if_pos (.inr h2)]
    · rw [if_neg (c := decide (at_ > (s.size : Int)) = true) (by simpa using h2), if_neg (by omega)]
      obtain ⟨a, rfl⟩ := Int.eq_ofNat_of_zero_le (show 0 ≤ at_ by omega)
      rw [Int.toNat_natCast, ← ref_loop s hs a (by omega) 9 k [] _ rfl (by omega) (by omega) rfl (fun _ h => by cases h)]
      rfl
theorem ref_string (s : ByteArray) (hs : s.size ≤ 140737488351232) (at_ : Int) (k : Nat) (hk : 50 ≤ k) (hk2 : k < 100000) : aircheckref01_String.f k s at_ = wire_String.f k s at_ := by
  unfold aircheckref01_String.f wire_String.f
  rw [ref_int s hs at_ k hk hk2, int_is s hs at_ k (by omega)]
theorem string_some (s : ByteArray) (hs : s.size ≤ 140737488351232) (at_ : Int) (k : Nat) (hk : 12 ≤ k) : ∃ r, wire_String.f k s at_ = some r := by
  by_cases h : at_ < 0 ∨ at_ > (s.size : Int)
  · unfold wire_String.f
    rw [int_is s hs at_ k hk, dec, if_pos h, Option.bind_some, if_neg (by decide)]
    exact ⟨_, rfl⟩
  · obtain ⟨a, rfl⟩ := Int.eq_ofNat_of_zero_le (show 0 ≤ at_ by omega)
    rcases startsS_or ((nat s).drop a) with ⟨t, y, ht⟩ | hn
    · obtain ⟨r, hr, _⟩ := str_yes s hs a (by omega) k hk ht
      exact ⟨_, hr⟩
    · exact ⟨_, str_no s hs a (by omega) k hk hn⟩
theorem ref_puts (s : ByteArray) (k : Nat) (hk : 12 ≤ k) (hk2 : k < 100000) : aircheckref01_PutString.f k s = wire_PutString.f s := by
  unfold aircheckref01_PutString.f wire_PutString.f
  rw [ref_put _ k hk hk2]
/-! the checksum -/
theorem ref_bs (x : Nat) (hx : x < 4294967296) : (Int.tmod (x : Int) 2 = 1 ∧ Go.bits .xor .u32 ((Int.tdiv (x : Int) 2) % 4294967296) 2197175160 = ((Crc.bs x : Nat) : Int)) ∨ (¬ Int.tmod (x : Int) 2 = 1 ∧ (Int.tdiv (x : Int) 2) % 4294967296 = ((Crc.bs x : Nat) : Int)) := by
  have e : (Int.tdiv (x : Int) 2) % (4294967296 : Int) = ((x >>> 1 : Nat) : Int) := by
    rw [show Int.tdiv (x : Int) 2 = ((x / 2 : Nat) : Int) from tdiv_nat x 2, Nat.shiftRight_eq_div_pow]; omega
  rw [e, show Int.tmod (x : Int) 2 = ((x % 2 : Nat) : Int) from tmod_nat x 2]
  unfold Crc.bs
  rcases Nat.mod_two_eq_zero_or_one x with h0 | h0
  · right; rw [h0, if_neg (by decide)]; exact ⟨by decide, rfl⟩
  · left; rw [h0, if_pos rfl]
    exact ⟨rfl, u32_xor_nat (x >>> 1) 0x82F63B78 (by rw [Nat.shiftRight_eq_div_pow]; omega) (by decide)⟩
theorem ref_l1 (s : ByteArray) (i : Nat) (hi : i < 1000) (j : Nat) : ∀ (k x : Nat), j ≤ 8 → x < 4294967296 →
    aircheckref01_Sum.l1 (k + j + 1) s (x : Int) (i : Int) ((8 - j : Nat) : Int) = aircheckref01_Sum.l0 k s ((Crc.bsN j x : Nat) : Int) ((i + 1 : Nat) : Int) := by
  induction j with
  | zero =>
    intro k x _ hx
    rw [aircheckref01_Sum.l1, if_neg (by omega), w64 (by omega) (by omega)]
    rfl
  | succ j ih =>
    intro k x hj hx
    have hb := Crc.bs_lt x hx
    have hw : wrap64 (((8 - (j + 1) : Nat) : Int) + 1) = ((8 - j : Nat) : Int) := by rw [w64 (by omega) (by omega)]; omega
    rw [aircheckref01_Sum.l1, if_pos (by omega), hw]
    rcases ref_bs x hx with ⟨g1, g2⟩ | ⟨g1, g2⟩
    · rw [if_pos g1, g2, show k + (j + 1) = k + j + 1 by omega, ih k _ (by omega) hb]
      rfl
    · rw [if_neg g1, g2, show k + (j + 1) = k + j + 1 by omega, ih k _ (by omega) hb]
      rfl
theorem ref_l0 (s : ByteArray) (hs : s.size < 1000) (m : Nat) : ∀ i : Nat, i + m = s.size → aircheckref01_Sum.l0 (10 * m + 1) s (regI s i) (i : Int) = some ((Crc.sum (nat s) : Nat) : Int) := by
  induction m with
  | zero =>
    intro i hi
    obtain rfl : i = s.size := by omega
    rw [aircheckref01_Sum.l0, if_neg (by omega)]
    have hF : Go.bits .xor .u32 4294967295 (regI s s.size) = ((Crc.sum (nat s) : Nat) : Int) := by
      have hr := reg_lt' s s.size
      unfold regI Crc.sum
      rw [List.take_of_length_le (by rw [nat_length]; omega)] at hr ⊢
      rw [Nat.xor_comm]
      exact u32_xor_nat 4294967295 _ (by decide) hr
    have := sum_lt s
    rw [hF, w64 (by omega) (by omega)]
  | succ m ih =>
    intro i hi
    have hl : i < s.size := by omega
    have hr := reg_lt' s i
    have hb := s[i].toNat_lt
    have hx : Crc.reg 0xFFFFFFFF ((nat s).take i) ^^^ s[i].toNat < 4294967296 := Nat.xor_lt_two_pow (n := 32) hr (by omega)
    have e1 : Go.bits .xor .u32 (regI s i) ((bt s (i : Int)) % 4294967296) = ((Crc.reg 0xFFFFFFFF ((nat s).take i) ^^^ s[i].toNat : Nat) : Int) := by
      rw [bt_at_nat s i hl, nat_at s i hl, Int.emod_eq_of_lt (by omega) (by omega)]
      exact u32_xor_nat _ _ hr (by omega)
    rw [show 10 * (m + 1) + 1 = (10 * m + 1 + 8 + 1) + 1 by omega, aircheckref01_Sum.l0, if_pos (by omega), if_pos (by omega), e1]
    have := ref_l1 s i (by omega) 8 (10 * m + 1) _ (by decide) hx
    rw [show ((8 - 8 : Nat) : Int) = 0 from rfl] at this
    rw [this, ← regI_succ s i hl, ih (i + 1) (by omega)]
theorem ref_sum (s : ByteArray) (hs : s.size < 1000) : aircheckref01_Sum.f (10 * s.size + 1) s = some ((Crc.sum (nat s) : Nat) : Int) := ref_l0 s hs s.size 0 (by omega)
theorem ref_sum_mono (s : ByteArray) (r : Int) (j k : Nat) (h : aircheckref01_Sum.f k s = some r) : aircheckref01_Sum.f (k + j) s = some r := by
  induction j with
  | zero => exact h
  | succ j ih => exact aircheckref01_Sum.mono s (k + j) r ih
end Go.Proofs.YtijnbalobinfiaaDoor.WireSpec
