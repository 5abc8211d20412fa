import Derived.Test.YtlmlimihgohchaaDoorMDa
/-
  Texts of this claim, one behind the other: what they prove stands above each.
-/
section
/-
  What Root, Proof and Extension answer is accepted.
-/
set_option linter.unusedVariables false
set_option linter.unusedSimpArgs false
namespace Go.Proofs.YtlmlimihgohchaaDoor.DigSpec
open Go.RowKit Go.Proofs.YtlmlimihgohchaaDoorW.PrintWords Go.Proofs.YtlmlimihgohchaaDoorW.PrintLast Go.Proofs.YtlmlimihgohchaaDoorW.PrintMore Go.Proofs.YtlmlimihgohchaaDoor.Ext Go.Proofs.YtlmlimihgohchaaDoor.PD
/-- the root of a list -/
abbrev rt (l : List ByteArray) : ByteArray := Tree.root dE dL dN l
theorem root_ok (l : List ByteArray) (h : fits l) : digest_Root.f l = some (rt l) := by unfold digest_Root.f; rw [if_pos h]
theorem partR_size (l : List ByteArray) (m : Nat) (h0 : 1 ≤ m) (whole : Bool) : ∀ x ∈ Tree.partR dE dL dN l m whole, x.size = 32 := by
  induction hn : l.length using Nat.strongRecOn generalizing l m whole with
  | _ n ih =>
    subst hn
    by_cases h : l.length ≤ m
    · rw [Tree.partR_end _ _ _ h]
      cases whole with
      | true => simp
      | false =>
        intro x hx
        rw [if_neg (by decide), List.mem_singleton] at hx
        rw [hx]; exact root_size _
    · have hlt := Tree.left_lt (n := l.length) (by omega)
      have hp := Tree.left_pos l.length
      by_cases hi : m ≤ Tree.left l.length
      · rw [Tree.partR_low _ _ _ h0 (by omega) hi]
        intro x hx
        rcases List.mem_cons.1 hx with rfl | hx
        · exact root_size _
        · exact ih _ (by rw [List.length_take]; omega) _ _ h0 _ rfl x hx
      · rw [Tree.partR_high _ _ _ h0 (by omega) (by omega)]
        intro x hx
        rcases List.mem_cons.1 hx with rfl | hx
        · exact root_size _
        · exact ih _ (by rw [List.length_drop]; omega) _ _ (by omega) _ rfl x hx
theorem fits_take {l : List ByteArray} (h : fits l) (m : Nat) : fits (l.take m) := ⟨Nat.le_trans (List.length_take_le' _ _) h.1, fun x hx => h.2 x (List.mem_of_mem_take hx)⟩
theorem fits_drop {l : List ByteArray} (h : fits l) (m : Nat) : fits (l.drop m) := ⟨by have := h.1; rw [List.length_drop]; omega, fun x hx => h.2 x (List.mem_of_mem_drop hx)⟩
theorem fits_digs {l : List ByteArray} (hl : l.length ≤ 1000000) (h : ∀ x ∈ l, x.size = 32) : fits l := fits_of hl (fun x hx => by rw [h x hx]; omega)
theorem digits_pos {n : Nat} (h : 1 ≤ n) : 1 ≤ digits n := by unfold digits; rw [if_neg (by omega)]; omega
theorem extension_ok (l : List ByteArray) (hf : fits l) (hl : l.length ≤ 1000) (m : Nat) (hm : m ≤ l.length) :
    ∃ x, digest_Extension.f l (m : Int) = some (x, 0) ∧ fits x ∧ x.length ≤ 2 * digits l.length ∧ digest_VerifyExtension.f (rt (l.take m)) (m : Int) (rt l) (l.length : Int) x = some true := by
  have key : ∀ x : List ByteArray, fits x → extB (rt (l.take m)) (m : Int) (rt l) (l.length : Int) x = true → digest_VerifyExtension.f (rt (l.take m)) (m : Int) (rt l) (l.length : Int) x = some true := by
    intro x hx he
    rw [Ext.digest_VerifyExtension.f, if_pos ⟨⟨hx, by rw [root_size]; omega, by rw [root_size]; omega⟩, by omega, by omega⟩, he]
  by_cases h0 : m = 0
  · subst h0
    refine ⟨[], ?_, ⟨by simp, by simp⟩, by simp, key [] ⟨by simp, by simp⟩ ?_⟩
    · unfold digest_Extension.f
      rw [if_pos hf, if_pos (by omega), if_pos (by omega)]
    · rw [extB_true]
      refine ⟨by omega, by simp, root_size _, root_size _, ?_⟩
      rw [if_pos (by omega)]
      exact ⟨rfl, by rw [List.take_zero]; exact Tree.root_nil _ _ _⟩
  · have hd := lt_digits l.length
    have hp := digits_pos (n := l.length) (by omega)
    have hlen := Tree.partR_len dE dL dN l m (by omega) true (digits l.length) (by omega)
    have hs := partR_size l m (by omega) true
    have hb : digits l.length ≤ 1000 := by
      unfold digits
      have : Nat.log2 l.length < 10 := (Nat.log2_lt (by omega)).2 (by omega)
      split <;> omega
    refine ⟨(Tree.partR dE dL dN l m true).reverse, ?_, fits_digs (by rw [List.length_reverse]; omega) (fun x hx => hs x (List.mem_reverse.1 hx)), by rw [List.length_reverse]; omega, key _ (fits_digs (by rw [List.length_reverse]; omega) (fun x hx => hs x (List.mem_reverse.1 hx))) ?_⟩
    · unfold digest_Extension.f
      rw [if_pos hf, if_pos (by omega), if_neg (by omega), Int.toNat_natCast]
    · rw [extB_true]
      refine ⟨by omega, fun x hx => hs x (List.mem_reverse.1 hx), root_size _, root_size _, ?_⟩
      rw [if_neg (by omega), Int.toNat_natCast, Int.toNat_natCast, List.reverse_reverse]
      exact Tree.ext_ok dE dL dN l m (by omega) hm _ true (fun _ => rfl)
end Go.Proofs.YtlmlimihgohchaaDoor.DigSpec
end
