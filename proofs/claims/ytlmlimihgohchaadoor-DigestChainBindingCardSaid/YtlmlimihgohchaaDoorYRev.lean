import Derived.Test.YtlmlimihgohchaaDoorYPQx3
/-
  Texts of this claim, one behind the other: what they prove stands above each.
-/
section
/-
  What slices.Reverse computes.
-/
namespace Go.Proofs.YtlmlimihgohchaaDoor.Ext
open Go.RowKit Go.Proofs.YtlmlimihgohchaaDoorW.PrintWords Go.Proofs.YtlmlimihgohchaaDoorW.PrintLast Go.Proofs.YtlmlimihgohchaaDoorW.PrintMore
open Go.Proofs.YtlmlimihgohchaaDoor.PQ
theorem rdOf_get (x : List ByteArray) (n : Nat) (h : n < x.length) : some (rdOf ByteArray.empty x (n : Int)) = x[n]? := by
  unfold rdOf
  rw [Int.toNat_natCast, List.getD_eq_getElem?_getD, List.getElem?_eq_getElem h]
  rfl
theorem w64 (i : Int) (h0 : -9223372036854775808 ≤ i) (h1 : i ≤ 9223372036854775807) : wrap64 i = i := by unfold wrap64; omega
theorem rev_l0 : ∀ (k : Nat) (x : List ByteArray) (a b : Nat), b ≤ x.length → x.length ≤ 1000000 → a ≤ b → b < k + a → ∃ y, slices_Reverse_string_string.l0 k x (a : Int) ((b : Int) - 1) = some y ∧ ∀ t : Nat, y[t]? = if a ≤ t ∧ t < b then x[a + b - 1 - t]? else x[t]? := by
  intro k
  induction k with
  | zero => intro x a b _ _ h1 h2; omega
  | succ k ih =>
    intro x a b hb hl hab hk
    unfold slices_Reverse_string_string.l0
    by_cases hc : (a : Int) < (b : Int) - 1
    · rw [if_pos hc, if_pos (by omega), if_pos (by omega), if_pos (by omega), if_pos (by omega), w64 _ (by omega) (by omega), w64 _ (by omega) (by omega)]
      obtain ⟨c, rfl⟩ : ∃ c, b = c + 1 := ⟨b - 1, by omega⟩
      rw [show ((c + 1 : Nat) : Int) - 1 = (c : Int) by omega]
      rw [show (a : Int) + 1 = ((a + 1 : Nat) : Int) by omega, Int.toNat_natCast, Int.toNat_natCast]
      obtain ⟨y, hy, ht⟩ := ih ((x.set a (rdOf ByteArray.empty x (c : Int))).set c (rdOf ByteArray.empty x (a : Int))) (a + 1) c (by simp; omega) (by simpa using hl) (by omega) (by omega)
      refine ⟨y, hy, fun t => ?_⟩
      have ea := rdOf_get x a (by omega)
      have ec := rdOf_get x c (by omega)
      rw [ht t]
      have hx : ∀ s : Nat, ((x.set a (rdOf ByteArray.empty x (c : Int))).set c (rdOf ByteArray.empty x (a : Int)))[s]? = if c = s then x[a]? else if a = s then x[c]? else x[s]? := by
        intro s
        rw [List.getElem?_set]
        by_cases h1 : c = s
        · rw [if_pos h1, if_pos h1, if_pos (by simp; omega), ea]
        · rw [if_neg h1, if_neg h1, List.getElem?_set]
          by_cases h2 : a = s
          · rw [if_pos h2, if_pos h2, if_pos (by omega), ec]
          · rw [if_neg h2, if_neg h2]
      by_cases h3 : a + 1 ≤ t ∧ t < c
      · rw [if_pos h3, if_pos (by omega), hx, if_neg (by omega), if_neg (by omega)]
        congr 1
        omega
      · rw [if_neg h3, hx]
        by_cases h4 : c = t
        · rw [if_pos h4, if_pos (by omega)]
          congr 1
          omega
        · rw [if_neg h4]
          by_cases h5 : a = t
          · rw [if_pos h5, if_pos (by omega)]
            congr 1
            omega
          · rw [if_neg h5, if_neg (by omega)]
    · rw [if_neg hc]
      refine ⟨x, rfl, fun t => ?_⟩
      by_cases h : a ≤ t ∧ t < b
      · rw [if_pos h]
        congr 1
        omega
      · rw [if_neg h]
theorem rev_f (x : List ByteArray) (hl : x.length ≤ 1000000) : slices_Reverse_string_string.f (x.length + 1) x = some x.reverse := by
  unfold slices_Reverse_string_string.f
  rw [w64 _ (by omega) (by omega)]
  obtain ⟨y, hy, ht⟩ := rev_l0 (x.length + 1) x 0 x.length (Nat.le_refl _) hl (Nat.zero_le _) (by omega)
  have h0 : ((0 : Nat) : Int) = 0 := rfl
  rw [h0] at hy
  rw [hy]
  congr 1
  apply List.ext_getElem?
  intro t
  rw [ht t]
  by_cases h : t < x.length
  · rw [if_pos (by omega), List.getElem?_reverse h]
    congr 1
    omega
  · rw [if_neg (by omega), List.getElem?_eq_none (by omega), List.getElem?_eq_none (by simp; omega)]
end Go.Proofs.YtlmlimihgohchaaDoor.Ext
end
