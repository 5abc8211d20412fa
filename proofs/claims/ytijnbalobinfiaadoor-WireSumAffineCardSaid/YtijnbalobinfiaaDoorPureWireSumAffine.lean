import Derived.Test.YtijnbalobinfiaaDoorWireCut
import Derived.Test.YtijnbalobinfiaaDoorPWx21
/-
  The checksum is affine.
-/
set_option linter.unusedVariables false
set_option linter.unusedSimpArgs false
namespace Go.Proofs.YtijnbalobinfiaaDoor.Pure
open Go.RowKit Go.Proofs.YtijnbalobinfiaaDoorW.PrintWords Go.Proofs.YtijnbalobinfiaaDoorW.PrintLast Go.Proofs.YtijnbalobinfiaaDoorW.PrintMore Go.Proofs.YtijnbalobinfiaaDoor.Ext Go.Proofs.YtijnbalobinfiaaDoor.PW Go.Proofs.YtijnbalobinfiaaDoor.WireSpec Leb

theorem nums_str (l : List Nat) : strOfNums (l.map fun n : Nat => (n : Int)) = str l := by
  unfold strOfNums str
  rw [List.map_map]
  rfl
theorem i64_xor (a b : Nat) (ha : a < 4294967296) (hb : b < 4294967296) : Go.bits .xor .i64 (a : Int) (b : Int) = ((a ^^^ b : Nat) : Int) := by
  have h := u64_xor_nat a b (by omega) (by omega)
  have hx : a ^^^ b < 4294967296 := Nat.xor_lt_two_pow (n := 32) ha hb
  change IntKind.u64.wrap (((BitVec.ofInt 64 (a : Int)) ^^^ (BitVec.ofInt 64 (b : Int))).toNat : Int) = _ at h
  show IntKind.i64.wrap (((BitVec.ofInt 64 (a : Int)) ^^^ (BitVec.ofInt 64 (b : Int))).toNat : Int) = _
  have hl := ((BitVec.ofInt 64 (a : Int)) ^^^ (BitVec.ofInt 64 (b : Int))).isLt
  generalize ((BitVec.ofInt 64 (a : Int)) ^^^ (BitVec.ofInt 64 (b : Int))).toNat = X at h hl ⊢
  rw [IntKind.wrap_u64] at h
  rw [IntKind.wrap_i64]
  generalize a ^^^ b = y at *
  omega
/-- the bytes that the loop makes -/
def mix (A B C : ByteArray) (n : Nat) : List Nat := List.zipWith (· ^^^ ·) (List.zipWith (· ^^^ ·) ((nat A).take n) ((nat B).take n)) ((nat C).take n)
theorem take_len (A : ByteArray) (n : Nat) (h : n ≤ A.size) : ((nat A).take n).length = n := by rw [List.length_take, nat_length]; omega
theorem mix_len (A B C : ByteArray) (n : Nat) (hA : n ≤ A.size) (hB : n ≤ B.size) (hC : n ≤ C.size) : (mix A B C n).length = n := by
  unfold mix
  rw [List.length_zipWith, List.length_zipWith, take_len A n hA, take_len B n hB, take_len C n hC]
  omega
def upto (z : List Nat) (i : Nat) : List Int := (z.take i ++ List.replicate (z.length - i) 0).map fun n : Nat => (n : Int)
theorem upto_len (z : List Nat) (i : Nat) (h : i ≤ z.length) : (upto z i).length = z.length := by simp [upto]; omega
theorem upto_set (z : List Nat) (i : Nat) (h : i < z.length) : (upto z i).set i ((z[i] : Nat) : Int) = upto z (i + 1) := by
  unfold upto
  rw [← List.map_set]
  congr 1
  rw [List.set_append_right _ _ (by rw [List.length_take]; omega), List.length_take, Nat.min_eq_left (by omega), Nat.sub_self, List.take_succ_eq_append_getElem h]
  rw [show z.length - i = (z.length - (i + 1)) + 1 by omega, List.replicate_succ, List.set_cons_zero, List.append_assoc]
  rfl
theorem upto_end (z : List Nat) : upto z z.length = z.map fun n : Nat => (n : Int) := by simp [upto]
theorem mix_at (A B C : ByteArray) (n : Nat) (hA : n ≤ A.size) (hB : n ≤ B.size) (hC : n ≤ C.size) (i : Nat) (hi : i < n) :
    Go.bits .xor .u8 (Go.bits .xor .u8 (bt A (i : Int)) (bt B (i : Int))) (bt C (i : Int)) = (((mix A B C n)[i]'(by rw [mix_len A B C n hA hB hC]; exact hi) : Nat) : Int) := by
  have hlt : ∀ (D : ByteArray) (hD : i < D.size), (nat D)[i]'(by rw [nat_length]; exact hD) < 256 := fun D hD => nat_lt D _ (List.getElem_mem _)
  have a1 := hlt A (by omega)
  have b1 := hlt B (by omega)
  have c1 := hlt C (by omega)
  rw [bt_at_nat A i (by omega), bt_at_nat B i (by omega), bt_at_nat C i (by omega), u8_xor_nat _ _ a1 b1, u8_xor_nat _ _ (Nat.xor_lt_two_pow (n := 8) a1 b1) c1]
  simp [mix]

theorem aff_loop (A B C : ByteArray) (n : Nat) (hA : n ≤ A.size) (hB : n ≤ B.size) (hC : n ≤ C.size) (hn : n ≤ 1000) (m : Nat) : ∀ i k, i + m = n →
    airchecklaw01_WireSumAffine.l0 (k + m) A B C true (n : Int) (upto (mix A B C n) i) (i : Int) = airchecklaw01_WireSumAffine.l0 k A B C true (n : Int) (upto (mix A B C n) n) (n : Int) := by
  have hml := mix_len A B C n hA hB hC
  induction m with
  | zero =>
    intro i k h
    obtain rfl : i = n := by omega
    rfl
  | succ m ih =>
    intro i k h
    have hi : i < n := by omega
    have hu := upto_len (mix A B C n) i (by omega)
    rw [show k + (m + 1) = k + m + 1 by omega, airchecklaw01_WireSumAffine.l0, if_pos (by omega), if_pos (by omega), if_pos (by omega), if_pos (by omega), if_pos (by omega), if_pos (by omega), mix_at A B C n hA hB hC i hi, Int.toNat_natCast, upto_set _ i (by omega), w64 (by omega) (by omega)]
    exact ih (i + 1) k (by omega)
theorem mix_bytes (A B C : ByteArray) (n : Nat) (hA : n ≤ A.size) (hB : n ≤ B.size) (hC : n ≤ C.size) : ∀ b ∈ mix A B C n, b < 256 := by
  intro b hb
  obtain ⟨i, hi, rfl⟩ := List.getElem_of_mem hb
  rw [mix_len A B C n hA hB hC] at hi
  have hlt : ∀ (D : ByteArray) (hD : i < D.size), (nat D)[i]'(by rw [nat_length]; exact hD) < 256 := fun D hD => nat_lt D _ (List.getElem_mem _)
  have a1 := hlt A (by omega)
  have b1 := hlt B (by omega)
  have c1 := hlt C (by omega)
  have := Nat.xor_lt_two_pow (n := 8) (Nat.xor_lt_two_pow (n := 8) a1 b1) c1
  simpa [mix] using this
theorem sum_of (s : ByteArray) (h : s.size ≤ 1000) : wire_Sum.f s = some ((Crc.sum (nat s) : Nat) : Int) := by unfold wire_Sum.f; rw [if_pos (by omega)]
theorem sum_cut (A : ByteArray) (n : Nat) (hA : n ≤ A.size) (hn : n ≤ 1000) : wire_Sum.f (A.extract 0 n) = some ((Crc.sum ((nat A).take n) : Nat) : Int) := by
  rw [sum_of _ (by rw [size_cut A n hA]; exact hn), nat_extract]
  simp
theorem sum_lt_l (l : List Nat) (h : ∀ b ∈ l, b < 256) : Crc.sum l < 4294967296 := Nat.xor_lt_two_pow (n := 32) (Crc.reg_lt _ (fun b hb => by have := h b hb; omega) _ (by decide)) (by decide)
theorem aff_end (A B C : ByteArray) (n : Nat) (hA : n ≤ A.size) (hB : n ≤ B.size) (hC : n ≤ C.size) (hn : n ≤ 1000) (k : Nat) :
    airchecklaw01_WireSumAffine.l0 (k + 1) A B C true (n : Int) (upto (mix A B C n) n) (n : Int) = some true := by
  have hml := mix_len A B C n hA hB hC
  have hmb := mix_bytes A B C n hA hB hC
  have hst : wire_Sum.f (str (mix A B C n)) = some ((Crc.sum (mix A B C n) : Nat) : Int) := by
    rw [sum_of _ (by rw [size_nat, nat_str _ hmb, hml]; exact hn), nat_str _ hmb]
  have hu : upto (mix A B C n) n = (mix A B C n).map fun n : Nat => (n : Int) := by
    have := upto_end (mix A B C n)
    rw [hml] at this
    exact this
  have haff := Crc.sum_affine ((nat A).take n) ((nat B).take n) ((nat C).take n) (by rw [take_len A n hA, take_len B n hB]) (by rw [take_len B n hB, take_len C n hC])
  have hl : ∀ D : ByteArray, ∀ b ∈ (nat D).take n, b < 256 := fun D b hb => nat_lt D b (List.mem_of_mem_take hb)
  have a1 := sum_lt_l _ (hl A)
  have b1 := sum_lt_l _ (hl B)
  have c1 := sum_lt_l _ (hl C)
  rw [airchecklaw01_WireSumAffine.l0, if_neg (by omega), if_pos rfl, hu, nums_str, hst, Option.bind_some, if_pos (by omega), if_pos (by omega), Int.toNat_natCast, sum_cut A n hA hn, Option.bind_some, if_pos (by omega), sum_cut B n hB hn, Option.bind_some, if_pos (by omega), sum_cut C n hC hn, Option.bind_some, i64_xor _ _ a1 b1, i64_xor _ _ (Nat.xor_lt_two_pow (n := 32) a1 b1) c1, ← haff]
  simp [mix]
theorem mn3 (a b c : ByteArray) : ∃ n : Nat, mn (mn (mn (a.size : Int) (b.size : Int)) (c.size : Int)) 200 = (n : Int) ∧ n ≤ a.size ∧ n ≤ b.size ∧ n ≤ c.size ∧ n ≤ 200 := by
  refine ⟨(mn (mn (mn (a.size : Int) (b.size : Int)) (c.size : Int)) 200).toNat, ?_, ?_, ?_, ?_, ?_⟩ <;> unfold mn <;> (repeat' split) <;> omega

theorem WireSumAffine (a0 a1 a2 : ByteArray) (w0 : a0.size ≤ 140737488351232) (w1 : a1.size ≤ 140737488351232) (w2 : a2.size ≤ 140737488351232) :
    ∃ k, airchecklaw01_WireSumAffine.f k a0 a1 a2 = some true := by
  obtain ⟨n, hn, n0, n1, n2, n3⟩ := mn3 a0 a1 a2
  refine ⟨13 + n, ?_⟩
  unfold airchecklaw01_WireSumAffine.f
  rw [sane_is (13 + n) (by omega), Option.bind_some]
  simp only [hn, Int.toNat_natCast]
  rw [if_pos (by omega), if_pos (by omega)]
  have h0 : (List.replicate n 0 : List Int) = upto (mix a0 a1 a2 n) 0 := by
    simp [upto, mix_len a0 a1 a2 n n0 n1 n2]
  rw [h0]
  exact (aff_loop a0 a1 a2 n n0 n1 n2 (by omega) n 0 13 (by omega)).trans (aff_end a0 a1 a2 n n0 n1 n2 (by omega) 12)
end Go.Proofs.YtijnbalobinfiaaDoor.Pure
