import Derived.Test.YtijnbalobinfiaaDoorWireSpec
import Derived.Test.YtijnbalobinfiaaDoorPWx3
import Derived.Test.YtijnbalobinfiaaDoorPWx4
import Derived.Test.YtijnbalobinfiaaDoorPWx6
import Derived.Test.YtijnbalobinfiaaDoorPWx7
import Derived.Test.YtijnbalobinfiaaDoorPWx8
import Derived.Lib.Strings
/-
  Integers and strings of package wire: what is accepted, and what is not; the examples.
-/
set_option linter.unusedVariables false
set_option linter.unusedSimpArgs false
namespace Go.Proofs.YtijnbalobinfiaaDoor.WireSpec
open Go.RowKit Go.Proofs.YtijnbalobinfiaaDoorW.PrintWords Go.Proofs.YtijnbalobinfiaaDoorW.PrintLast Go.Proofs.YtijnbalobinfiaaDoorW.PrintMore Go.Proofs.YtijnbalobinfiaaDoor.Ext Go.Proofs.YtijnbalobinfiaaDoor.PW Leb

/-! strings as lists of numbers -/
theorem nat_inj {s t : ByteArray} (h : nat s = nat t) : s = t := by
  apply ByteArray.ext
  apply Array.ext'
  have hi : ∀ (a b : List UInt8), a.map (·.toNat) = b.map (·.toNat) → a = b := by
    intro a
    induction a with
    | nil => intro b h; cases b with
      | nil => rfl
      | cons => simp at h
    | cons x a ih =>
      intro b h
      cases b with
      | nil => simp at h
      | cons y b =>
        simp only [List.map_cons, List.cons.injEq] at h
        rw [ih b h.2, UInt8.toNat_inj.1 h.1]
  exact hi _ _ h
theorem nat_append (s t : ByteArray) : nat (s ++ t) = nat s ++ nat t := by simp [nat, ByteArray.data_append]
theorem nat_extract (s : ByteArray) (i j : Nat) : nat (s.extract i j) = ((nat s).drop i).take (j - i) := by
  unfold nat
  rw [← Lib.toList_data, Lib.extract_toList]
  simp [List.map_take, List.map_drop]
theorem nat_str (l : List Nat) (h : ∀ b ∈ l, b < 256) : nat (str l) = l := by
  simp only [nat, str, List.map_map]
  have : ∀ b ∈ l, ((·.toNat) ∘ UInt8.ofNat) b = b := fun b hb => by
    simp only [Function.comp]
    rw [UInt8.toNat_ofNat']
    exact Nat.mod_eq_of_lt (h b hb)
  rw [List.map_congr_left this]
  simp
theorem nat_enc (n : Int) : nat (str (enc n)) = enc n := nat_str _ (leb_bytes _)
theorem toList_nat (s t : ByteArray) : s.toList = t.toList ↔ nat s = nat t := by
  rw [Lib.toList_data, Lib.toList_data]
  constructor
  · intro h; unfold nat; rw [h]
  · intro h; rw [nat_inj h]
theorem toList_eq (s t : ByteArray) : s.toList = t.toList ↔ s = t := by
  rw [toList_nat]; exact ⟨nat_inj, fun h => by rw [h]⟩
theorem size_nat (s : ByteArray) : s.size = (nat s).length := (nat_length s).symm

/-! what is accepted -/
theorem scan_code (f : Nat) : ∀ (pre c y : List Nat), Leb.Code c → c.length ≤ f → scan f pre (c ++ y) = some (pre ++ c) := by
  induction f with
  | zero => intro pre c y h hl; cases c with
    | nil => exact h.elim
    | cons => simp at hl
  | succ f ih =>
    intro pre c y h hl
    cases c with
    | nil => exact h.elim
    | cons b c =>
      cases c with
      | nil =>
        have h' : b < 128 := h
        simp only [List.cons_append, List.nil_append, scan]
        rw [if_neg (by omega)]
      | cons d c =>
        rw [code_cons] at h
        simp only [List.cons_append, scan]
        rw [if_pos h.1]
        have := ih (pre ++ [b]) (d :: c) y h.2.2.1 (by simp at hl ⊢; omega)
        rw [List.cons_append] at this
        rw [this]; simp
theorem scan_prefix (f : Nat) : ∀ (pre l c : List Nat), scan f pre l = some c → ∃ y, pre ++ l = c ++ y := by
  induction f with
  | zero => intro pre l c h; simp [scan] at h
  | succ f ih =>
    intro pre l c h
    cases l with
    | nil => simp [scan] at h
    | cons b l =>
      simp only [scan] at h
      split at h
      · obtain ⟨y, hy⟩ := ih _ _ _ h
        exact ⟨y, by rw [← hy]; simp⟩
      · injection h with h
        exact ⟨l, by rw [← h]; simp⟩
/-- a code at the head of a list, of an integer that has one -/
def Starts (l : List Nat) (z : Nat) (y : List Nat) : Prop := l = leb z ++ y ∧ z < 9223372036854775807
theorem leb_len9 {z : Nat} (h : z < 9223372036854775807) : (leb z).length ≤ 9 := leb_length 8 z (Nat.lt_trans h (by decide))
theorem fin_yes (a : Nat) {l : List Nat} {z : Nat} {y : List Nat} (h : Starts l z y) : fin a (scan 9 [] l) = (zag z, ((a + (leb z).length : Nat) : Int), 0) := by
  rw [h.1, scan_code 9 [] (leb z) y (leb_code z) (leb_len9 h.2)]
  simp only [List.nil_append, fin]
  rw [val_leb, if_pos ⟨rfl, h.2⟩]
theorem fin_no (a : Nat) {l : List Nat} (h : ∀ z y, ¬ Starts l z y) : fin a (scan 9 [] l) = (0, 0, 10) := by
  cases hs : scan 9 [] l with
  | none => rfl
  | some c =>
    obtain ⟨y, hy⟩ := scan_prefix _ _ _ _ hs
    simp only [fin]
    rw [if_neg]
    intro hc
    exact h (val c) y ⟨by rw [hc.1]; simpa using hy, hc.2⟩
theorem dec_yes (s : ByteArray) (a : Nat) (ha : a ≤ s.size) {z : Nat} {y : List Nat} (h : Starts ((nat s).drop a) z y) : dec s (a : Int) = (zag z, ((a + (leb z).length : Nat) : Int), 0) := by
  unfold dec; rw [if_neg (by omega), Int.toNat_natCast]; exact fin_yes a h
theorem dec_no (s : ByteArray) (a : Nat) (ha : a ≤ s.size) (h : ∀ z y, ¬ Starts ((nat s).drop a) z y) : dec s (a : Int) = (0, 0, 10) := by
  unfold dec; rw [if_neg (by omega), Int.toNat_natCast]; exact fin_no a h
theorem starts_or (l : List Nat) : (∃ z y, Starts l z y) ∨ ∀ z y, ¬ Starts l z y := by
  by_cases h : ∃ z y, Starts l z y
  · exact .inl h
  · exact .inr fun z y hz => h ⟨z, y, hz⟩
theorem zag_range {z : Nat} (h : z < 9223372036854775807) : -4611686018427387903 ≤ zag z ∧ zag z ≤ 4611686018427387903 := by
  unfold zag; split <;> omega
theorem zig_range {n : Int} (h0 : -4611686018427387903 ≤ n) (h1 : n ≤ 4611686018427387903) : zig n < 9223372036854775807 := by
  unfold zig; split <;> omega
theorem put_ok {n : Int} (h0 : -4611686018427387903 ≤ n) (h1 : n ≤ 4611686018427387903) : wire_PutInt.f n = some (str (enc n), 0) := by
  unfold wire_PutInt.f; rw [if_neg (by omega), if_neg (by omega)]
theorem put_zag {z : Nat} (h : z < 9223372036854775807) : wire_PutInt.f (zag z) = some (str (leb z), 0) := by
  rw [put_ok (zag_range h).1 (zag_range h).2, enc, zig_zag]

/-! strings -/
theorem enc_nat (n : Nat) : enc (n : Int) = leb (2 * n) := by
  unfold enc zig; rw [if_neg (by omega)]; congr 1
theorem enc_len (n : Nat) (h : n ≤ 65536) : (enc (n : Int)).length ≤ 3 := by
  rw [enc_nat]; exact leb_length 2 _ (by omega)
theorem putS_ok (s : ByteArray) (h : s.size ≤ 65536) : wire_PutString.f s = some (str (enc (s.size : Int)) ++ s, 0) := by
  unfold wire_PutString.f
  rw [if_neg (by omega), put_ok (by omega) (by omega)]
  have := enc_len s.size h
  have h2 : (str (enc (s.size : Int))).size = (enc (s.size : Int)).length := by rw [size_nat, nat_enc]
  simp only [Option.bind_some]
  rw [if_pos (by omega)]
theorem putS_big (s : ByteArray) (h : 65536 < s.size) : wire_PutString.f s = some (⟨#[]⟩, 10) := by
  unfold wire_PutString.f; rw [if_pos (by omega)]
/-- a string's code at the head of a list -/
def StartsS (l : List Nat) (t y : List Nat) : Prop := l = enc (t.length : Int) ++ (t ++ y) ∧ t.length ≤ 65536
theorem startsS_starts {l t y : List Nat} (h : StartsS l t y) : Starts l (2 * t.length) (t ++ y) := ⟨by rw [h.1, enc_nat], by have := h.2; omega⟩
theorem str_yes (s : ByteArray) (hs : s.size ≤ 140737488351232) (a : Nat) (ha : a ≤ s.size) (k : Nat) (hk : 12 ≤ k) {t y : List Nat} (h : StartsS ((nat s).drop a) t y) :
    ∃ r, wire_String.f k s (a : Int) = some (r, ((a + (enc (t.length : Int)).length + t.length : Nat) : Int), 0) ∧ nat r = t := by
  have hst := startsS_starts h
  have hl := congrArg List.length h.1
  simp only [List.length_drop, nat_length, List.length_append] at hl
  have h2 := h.2
  have hz : zag (2 * t.length) = (t.length : Int) := by unfold zag; split <;> omega
  refine ⟨s.extract (a + (enc (t.length : Int)).length) (a + (enc (t.length : Int)).length + t.length), ?_, ?_⟩
  · unfold wire_String.f
    rw [int_is s hs _ k hk, dec_yes s a ha hst, hz, ← enc_nat]
    simp only [Option.bind_some]
    rw [if_pos trivial, if_neg (by omega), if_neg (by omega), if_neg (by rw [w64 (by omega) (by omega)]; omega), if_pos (by omega), if_pos (by rw [w64 (by omega) (by omega)]; omega), if_pos (by rw [w64 (by omega) (by omega)]; omega), w64 (by omega) (by omega)]
    rw [show ((a + (enc (t.length : Int)).length : Nat) : Int) + (t.length : Int) = ((a + (enc (t.length : Int)).length + t.length : Nat) : Int) by omega, Int.toNat_natCast, Int.toNat_natCast]
  · rw [nat_extract, ← List.drop_drop, h.1, List.drop_left, Nat.add_sub_cancel_left, List.take_left]
theorem str_no (s : ByteArray) (hs : s.size ≤ 140737488351232) (a : Nat) (ha : a ≤ s.size) (k : Nat) (hk : 12 ≤ k) (h : ∀ t y, ¬ StartsS ((nat s).drop a) t y) :
    wire_String.f k s (a : Int) = some (⟨#[]⟩, 0, 10) := by
  unfold wire_String.f
  rw [int_is s hs _ k hk]
  simp only [Option.bind_some]
  rcases starts_or ((nat s).drop a) with ⟨z, y, hz⟩ | hn
  · rw [dec_yes s a ha hz]
    simp only
    rw [if_pos trivial]
    have hl := congrArg List.length hz.1
    simp only [List.length_drop, nat_length, List.length_append] at hl
    by_cases h1 : zag z < 0
    · rw [if_pos h1]
    · rw [if_neg h1]
      by_cases h2 : zag z > 65536
      · rw [if_pos h2]
      · rw [if_neg h2, if_pos]
        have h64 : wrap64 ((s.size : Int) - ((a + (leb z).length : Nat) : Int)) = (s.size : Int) - ((a + (leb z).length : Nat) : Int) := w64 (by omega) (by omega)
        rw [h64]
        rcases Int.lt_or_le ((s.size : Int) - ((a + (leb z).length : Nat) : Int)) (zag z) with h3 | h3
        · exact h3
        · exfalso
          obtain ⟨n, hn⟩ := Int.eq_ofNat_of_zero_le (show 0 ≤ zag z by omega)
          have hzn : z = 2 * n := by
            have := zig_zag z
            rw [hn] at this
            unfold zig at this
            rw [if_neg (by omega)] at this
            omega
          rw [hn] at h2 h3
          refine h (y.take n) (y.drop n) ⟨?_, ?_⟩
          · rw [List.take_append_drop, List.length_take, Nat.min_eq_left (by omega), enc_nat, ← hzn, hz.1]
          · rw [List.length_take, Nat.min_eq_left (by omega)]; omega
  · rw [dec_no s a ha hn]
    simp only
    rw [if_neg (by decide)]
theorem startsS_or (l : List Nat) : (∃ t y, StartsS l t y) ∨ ∀ t y, ¬ StartsS l t y := by
  by_cases h : ∃ z y, StartsS l z y
  · exact .inl h
  · exact .inr fun z y hz => h ⟨z, y, hz⟩

/-! the law's own helpers -/
theorem wf64 {a : Int} (h : (Lit.int .i64 a).wf = true) : -9223372036854775808 ≤ a ∧ a ≤ 9223372036854775807 := by
  simpa [Lit.wf, IntKind.min, IntKind.max, IntKind.signed, IntKind.bits] using h
theorem pick_is {c n : Int} (h0 : -9223372036854775808 ≤ c) (h1 : c ≤ 9223372036854775807) (hn : 0 < n) : ∃ r : Int, airchecklaw01_pick.f c n = some r ∧ 0 ≤ r ∧ r < n := by
  unfold airchecklaw01_pick.f
  by_cases h : c < 0
  · rw [if_pos h, if_neg (by omega), w64 (x := c + 1) (by omega) (by omega), w64 (by omega) (by omega)]
    exact ⟨_, rfl, Int.tmod_nonneg _ (by omega), Int.tmod_lt_of_pos _ hn⟩
  · rw [if_neg h, if_neg (by omega)]
    exact ⟨_, rfl, Int.tmod_nonneg _ (by omega), Int.tmod_lt_of_pos _ hn⟩
theorem number_is {c : Int} (h0 : -9223372036854775808 ≤ c) (h1 : c ≤ 9223372036854775807) : ∃ n : Int, airchecklaw01_NumberFrom.f c = some n ∧ -4611686018427387903 ≤ n ∧ n ≤ 4611686018427387903 := by
  unfold airchecklaw01_NumberFrom.f
  obtain ⟨p, hp, p0, p1⟩ := pick_is h0 h1 (n := 4611686018427387904) (by decide)
  obtain ⟨q, hq, q0, q1⟩ := pick_is h0 h1 (n := 8) (by decide)
  obtain ⟨u, hu, u0, u1⟩ := pick_is h0 h1 (n := 16) (by decide)
  have hd : 0 ≤ Int.tdiv p 8 ∧ Int.tdiv p 8 ≤ p := by
    rw [Int.tdiv_eq_ediv_of_nonneg p0]; omega
  have hr : ∀ q : Int, 0 ≤ q → q < 8 → 0 < rd ([64, 128, 8192, 16384, 1073741824, 36028797018963968, 576460752303423488, 2] : List Int) q ∧ rd ([64, 128, 8192, 16384, 1073741824, 36028797018963968, 576460752303423488, 2] : List Int) q ≤ 576460752303423488 := by
    intro q q0 q1
    obtain ⟨j, rfl⟩ := Int.eq_ofNat_of_zero_le q0
    have : j < 8 := by omega
    have key : ∀ j : Nat, j < 8 → 0 < rd ([64, 128, 8192, 16384, 1073741824, 36028797018963968, 576460752303423488, 2] : List Int) (j : Int) ∧ rd ([64, 128, 8192, 16384, 1073741824, 36028797018963968, 576460752303423488, 2] : List Int) (j : Int) ≤ 576460752303423488 := by
      unfold rd; decide
    exact key j this
  obtain ⟨r0, r1⟩ := hr q q0 q1
  obtain ⟨v, hv, v0, v1⟩ := pick_is (c := wrap64 (Int.tdiv p 8)) (by rw [w64 (by omega) (by omega)]; omega) (by rw [w64 (by omega) (by omega)]; omega) r0
  rw [hp]; simp only [Option.bind_some]
  rw [hq]; simp only [Option.bind_some]
  rw [if_pos q0, if_pos (by simpa using q1), hv]; simp only [Option.bind_some]
  rw [hu]; simp only [Option.bind_some]
  by_cases h8 : u ≥ 8
  · rw [if_pos h8, w64 (by omega) (by omega)]
    exact ⟨_, rfl, by omega, by omega⟩
  · rw [if_neg h8]
    exact ⟨_, rfl, by omega, by omega⟩
end Go.Proofs.YtijnbalobinfiaaDoor.WireSpec
