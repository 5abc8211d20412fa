import Derived.Test.YtlmlimihgohchaaDoorYPRx4
import Derived.Test.YtlmlimihgohchaaDoorYPRx5
import Derived.Test.YtlmlimihgohchaaDoorYSha
import Derived.Laws.BitsAllLaws
/-
  Texts of this claim, one behind the other: what they prove stands above each.
-/
section
/-
  Rotations.
-/
set_option linter.unusedSimpArgs false
namespace Go.Proofs.YtlmlimihgohchaaDoor.ShaSpec
open Go.RowKit Go.Proofs.YtlmlimihgohchaaDoorW.PrintWords Go.Proofs.YtlmlimihgohchaaDoorW.PrintLast Go.Proofs.YtlmlimihgohchaaDoorW.PrintMore Go.Proofs.YtlmlimihgohchaaDoor.Ext Go.Proofs.YtlmlimihgohchaaDoor.PR
theorem rot_lt (x n : Nat) (hx : x < 4294967296) : Sha.rot x n < 4294967296 := by
  unfold Sha.rot Sha.m32
  exact Nat.or_lt_two_pow (n := 32) (Nat.lt_of_le_of_lt (Nat.shiftRight_le _ _) hx) (Nat.mod_lt _ (by decide))
theorem rotl (x n : Nat) (hx : x < 4294967296) (h0 : 0 < n) (hn : n < 32) : bits_RotateLeft32.f (x : Int) (wrap64 (-(n : Int))) = some ((Sha.rot x n : Nat) : Int) := by
  have e1 : wrap64 (-(n : Int)) = -(n : Int) := by unfold wrap64; omega
  have e2 : IntKind.u64.wrap (-(n : Int)) = ((18446744073709551616 - n : Nat) : Int) := by rw [IntKind.wrap_u64]; omega
  have e3 : Go.bits .and .u64 ((18446744073709551616 - n : Nat) : Int) 31 = ((32 - n : Nat) : Int) := by
    have := u64_and_nat (18446744073709551616 - n) 31 (by omega) (by decide)
    rw [show (31 : Nat) = 2 ^ 5 - 1 from rfl, Nat.and_two_pow_sub_one_eq_mod] at this
    rw [show (31 : Int) = ((2 ^ 5 - 1 : Nat) : Int) from rfl, this]
    congr 1
    omega
  have e4 : IntKind.u64.wrap (32 - ((32 - n : Nat) : Int)) = (n : Int) := by rw [IntKind.wrap_u64]; omega
  unfold bits_RotateLeft32.f
  rw [e1, e2, e3, e4, if_pos (by omega), if_pos (by omega)]
  have s1 : shl .u32 (x : Int) ((32 - n : Nat) : Int) = (((x <<< (32 - n)) % 4294967296 : Nat) : Int) := by
    unfold shl
    rw [show min ((32 - n : Nat) : Int).toNat IntKind.u32.bits = 32 - n by simp [IntKind.bits], show ((2 : Int) ^ (32 - n)) = ((2 ^ (32 - n) : Nat) : Int) by simp, ← Int.natCast_mul, IntKind.wrap_u32, Nat.shiftLeft_eq]
    omega
  have s2 : shr .u32 (x : Int) (n : Int) = ((x >>> n : Nat) : Int) := by
    unfold shr
    rw [show min ((n : Nat) : Int).toNat IntKind.u32.bits = n by simp [IntKind.bits]; omega, show ((2 : Int) ^ n) = ((2 ^ n : Nat) : Int) by simp, Nat.shiftRight_eq_div_pow]
    rfl
  rw [s1, s2, u32_or_nat _ _ (Nat.mod_lt _ (by decide)) (Nat.lt_of_le_of_lt (Nat.shiftRight_le _ _) hx), Nat.or_comm]
  rfl
theorem xor_lt {a b : Nat} (ha : a < 4294967296) (hb : b < 4294967296) : a ^^^ b < 4294967296 := Nat.xor_lt_two_pow (n := 32) ha hb
/-- what mixed answers -/
def mix (x : Nat) (l : List Nat) : Nat := l.foldl (fun a n => a ^^^ Sha.rot x n) 0
theorem mixed_loop (x : Nat) (hx : x < 4294967296) (l : List Nat) (hl : ∀ n ∈ l, 0 < n ∧ n < 32) (hlen : l.length < 1000) (m : Nat) : ∀ (i k a : Nat), i + m = l.length → m < k → a < 4294967296 →
    digest_mixed.l0 k (x : Int) (a : Int) (l.map fun n : Nat => (n : Int)) (l.length : Int) (i : Int) = some (((l.drop i).foldl (fun a n => a ^^^ Sha.rot x n) a : Nat) : Int) := by
  induction m with
  | zero =>
    intro i k a hi hk ha
    obtain ⟨k, rfl⟩ : ∃ q, k = q + 1 := ⟨k - 1, by omega⟩
    rw [digest_mixed.l0, if_neg (by omega), List.drop_of_length_le (by omega)]
    rfl
  | succ m ih =>
    intro i k a hi hk ha
    obtain ⟨k, rfl⟩ : ∃ q, k = q + 1 := ⟨k - 1, by omega⟩
    have hil : i < l.length := by omega
    have hrd : rd (l.map fun n : Nat => (n : Int)) (i : Int) = ((l[i] : Nat) : Int) := by
      unfold rd
      simp [List.getD_eq_getElem?_getD, hil]
    have hw : wrap64 ((i : Int) + 1) = ((i + 1 : Nat) : Int) := by unfold wrap64; omega
    have hb := hl _ (List.getElem_mem hil)
    rw [digest_mixed.l0, if_pos (by omega), if_pos (by omega), if_pos (by rw [List.length_map]; omega), hrd, rotl x _ hx hb.1 hb.2, Option.bind_some, u32_xor_nat _ _ ha (rot_lt _ _ hx), hw, ih (i + 1) k _ (by omega) (by omega) (xor_lt ha (rot_lt _ _ hx)), List.drop_eq_getElem_cons hil]
    rfl
theorem mixed_is (x : Nat) (hx : x < 4294967296) (l : List Nat) (hl : ∀ n ∈ l, 0 < n ∧ n < 32) (hlen : l.length < 1000) : digest_mixed.f (l.length + 1) (x : Int) (l.map fun n : Nat => (n : Int)) = some ((mix x l : Nat) : Int) := by
  unfold digest_mixed.f
  rw [List.length_map]
  exact mixed_loop x hx l hl hlen l.length 0 _ 0 (by omega) (by omega) (by decide)
end Go.Proofs.YtlmlimihgohchaaDoor.ShaSpec
end
