import Derived.Test.YtijnbalobinfiaaDoorWireSane
/-
  Parts of strings.
-/
set_option linter.unusedVariables false
namespace Go.Proofs.YtijnbalobinfiaaDoor.WireSpec
open Go.RowKit Go.Proofs.YtijnbalobinfiaaDoorW.PrintWords Go.Proofs.YtijnbalobinfiaaDoorW.PrintLast Go.Proofs.YtijnbalobinfiaaDoorW.PrintMore Go.Proofs.YtijnbalobinfiaaDoor.Ext Go.Proofs.YtijnbalobinfiaaDoor.PW Leb
theorem mn_cut (s : ByteArray) (m : Int) (hm : 0 ≤ m) : 0 ≤ mn (s.size : Int) m ∧ mn (s.size : Int) m ≤ (s.size : Int) ∧ mn (s.size : Int) m ≤ m := by
  unfold mn; split <;> omega
theorem size_cut (s : ByteArray) (j : Nat) (h : j ≤ s.size) : (s.extract 0 j).size = j := by
  rw [ByteArray.size_extract, Nat.min_eq_left h]; rfl

theorem cut_is (s : ByteArray) (m : Nat) : ∃ j : Nat, mn (s.size : Int) (m : Int) = (j : Int) ∧ j ≤ s.size ∧ j ≤ m ∧ (s.extract 0 j).size = j := by
  obtain ⟨m0, m1, m2⟩ := mn_cut s m (by omega)
  obtain ⟨j, hj⟩ := Int.eq_ofNat_of_zero_le m0
  exact ⟨j, hj, by omega, by omega, size_cut s j (by omega)⟩
/-- the code of a string -/
def encS (t : ByteArray) : List Nat := enc (t.size : Int) ++ nat t
theorem encS_nat (t : ByteArray) : nat (str (enc (t.size : Int)) ++ t) = encS t := by rw [nat_append, nat_enc]; rfl
theorem encS_starts (t : ByteArray) (y : List Nat) (h : t.size ≤ 65536) : StartsS (encS t ++ y) (nat t) y := ⟨by rw [nat_length]; simp [encS], by rw [nat_length]; exact h⟩
theorem enc_starts (n : Int) (y : List Nat) (h0 : -4611686018427387903 ≤ n) (h1 : n ≤ 4611686018427387903) : Starts (enc n ++ y) (zig n) y := ⟨rfl, zig_range h0 h1⟩
theorem enc_size (n : Int) : (str (enc n)).size = (enc n).length := by rw [size_nat, nat_enc]
theorem encS_size (t : ByteArray) : (str (enc (t.size : Int)) ++ t).size = (encS t).length := by rw [size_nat, encS_nat]
theorem encS_len (t : ByteArray) : (encS t).length = (enc (t.size : Int)).length + t.size := by simp [encS, nat_length]
end Go.Proofs.YtijnbalobinfiaaDoor.WireSpec
