import Derived.Test.YtlmlimihgohchaaDoorMDa
/-
  Texts of this claim, one behind the other: what they prove stands above each.
-/
section
/-
  What Root, Proof and Extension answer is accepted.
-/
set_option linter.unusedVariables false
set_option linter.unusedSimpArgs false
namespace Go.Proofs.YtlmlimihgohchaaDoor.DigSpec
open Go.RowKit Go.Proofs.YtlmlimihgohchaaDoorW.PrintWords Go.Proofs.YtlmlimihgohchaaDoorW.PrintLast Go.Proofs.YtlmlimihgohchaaDoorW.PrintMore Go.Proofs.YtlmlimihgohchaaDoor.Ext Go.Proofs.YtlmlimihgohchaaDoor.PD
/-- the root of a list -/
abbrev rt (l : List ByteArray) : ByteArray := Tree.root dE dL dN l
theorem root_ok (l : List ByteArray) (h : fits l) : digest_Root.f l = some (rt l) := by unfold digest_Root.f; rw [if_pos h]
theorem proofR_size (l : List ByteArray) (i : Nat) : ∀ x ∈ Tree.proofR dE dL dN l i, x.size = 32 := by
  induction hn : l.length using Nat.strongRecOn generalizing l i with
  | _ n ih =>
    subst hn
    by_cases h : l.length ≤ 1
    · rw [Tree.proofR_small _ _ _ h]; simp
    · have hlt := Tree.left_lt (n := l.length) (by omega)
      have hp := Tree.left_pos l.length
      by_cases hi : i < Tree.left l.length
      · rw [Tree.proofR_low _ _ _ (by omega) hi]
        intro x hx
        rcases List.mem_cons.1 hx with rfl | hx
        · exact root_size _
        · exact ih _ (by rw [List.length_take]; omega) _ _ rfl x hx
      · rw [Tree.proofR_high _ _ _ (by omega) (by omega)]
        intro x hx
        rcases List.mem_cons.1 hx with rfl | hx
        · exact root_size _
        · exact ih _ (by rw [List.length_drop]; omega) _ _ rfl x hx
theorem fits_digs {l : List ByteArray} (hl : l.length ≤ 1000000) (h : ∀ x ∈ l, x.size = 32) : fits l := fits_of hl (fun x hx => by rw [h x hx]; omega)
end Go.Proofs.YtlmlimihgohchaaDoor.DigSpec
end
