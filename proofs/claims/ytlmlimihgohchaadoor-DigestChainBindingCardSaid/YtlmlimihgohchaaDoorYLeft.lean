import Derived.Test.YtlmlimihgohchaaDoorYLenOf
import Derived.Test.YtlmlimihgohchaaDoorYTree
import Derived.WalkKit
import Derived.Lib.Hide
import Derived.Test.YtlmlimihgohchaaDoorYBlk
import Derived.Test.YtlmlimihgohchaaDoorYPRx0
/-
  Texts of this claim, one behind the other: what they prove stands above each.
-/
section
/-
  left: the greatest power of two below a number.
-/
namespace Go.Proofs.YtlmlimihgohchaaDoor.Ext
open Go.RowKit Go.Proofs.YtlmlimihgohchaaDoorW.PrintWords
set_option linter.unusedVariables false
set_option linter.unusedSimpArgs false
theorem bitLen_aux (f : Nat) : ∀ n : Nat, 0 < n → n < 2 ^ f → Lib.bitLenAux f n = Nat.log2 n + 1 := by
  induction f with
  | zero => intro n h h2; simp at h2; omega
  | succ f ih =>
    intro n h h2
    rw [Lib.bitLenAux, if_neg (by omega)]
    by_cases h1 : n = 1
    · subst h1
      cases f with
      | zero => rfl
      | succ f => simp [Lib.bitLenAux]; decide
    · rw [ih (n / 2) (by omega) (by rw [Nat.pow_succ] at h2; omega)]
      rw [Nat.log2_def n, if_pos (by omega)]
      omega
theorem bitLen_log (n : Nat) (h : 0 < n) (h2 : n < 18446744073709551616) : Lib.bitLen n = Nat.log2 n + 1 := bitLen_aux 64 n h h2
set_option maxHeartbeats 1000000 in
theorem left_walk (n : Nat) (h2 : 2 ≤ n) (hn : n ≤ 9223372036854775807) (w : World) :
    Calls Tryd.prog 40 #[.int .i64 (n : Int)] w fun e w' => e = .returned (.int .i64 ((Tree.left n : Nat) : Int)) ∧ w' = w := by
  have hl : Nat.log2 (n - 1) < 63 := by
    rw [Nat.log2_lt (by omega)]
    omega
  have hb := bitLen_log (n - 1) (by omega) (by omega)
  obtain ⟨k, hk⟩ : ∃ k, Nat.log2 (n - 1) = k := ⟨_, rfl⟩
  rw [hk] at hb hl
  have e1 : IntKind.u64.wrap ((n : Int) - 1) = ((n - 1 : Nat) : Int) := by rw [IntKind.wrap_u64]; omega
  have e2 : (((n - 1 : Nat) : Int)).toNat = n - 1 := by omega
  have HB := Lib.hid hb
  have HK := Lib.hid hk
  clear hb hk
  go_enter Tryd.func40, Tryd.ntmps40
  have hs : Tree.left n = 2 ^ k := by unfold Tree.left; rw [HK.out]
  go_wp2_with (first | (go_at_call 59; refine (YtlmlimihgohchaaDoorlen.any _ _ (by omega) (by omega)).mono ?_; rintro e w' ⟨he, rfl⟩; rw [e2, HB.out] at he; subst he) | fail)
  go_ret
  have hp : (2 : Nat) ^ k < 2 ^ 63 := Nat.pow_lt_pow_right (by decide) hl
  have hp2 : (2 : Int) ^ k = ((2 ^ k : Nat) : Int) := by simp
  refine ⟨?_, rfl⟩
  rw [hs]
  show Ending.returned (.int .i64 (wrap64 ((2 : Int) ^ k))) = _
  rw [hp2]
  have hw : wrap64 ((2 ^ k : Nat) : Int) = ((2 ^ k : Nat) : Int) := by
    generalize (2 : Nat) ^ k = z at *
    unfold wrap64
    omega
  rw [hw]
end Go.Proofs.YtlmlimihgohchaaDoor.Ext
end
