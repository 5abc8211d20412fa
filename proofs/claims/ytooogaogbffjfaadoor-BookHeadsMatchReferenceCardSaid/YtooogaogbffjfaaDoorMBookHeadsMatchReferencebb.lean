import Derived.Test.YtooogaogbffjfaaDoorMBookHeadsMatchReferenceba
/-
  Texts of this claim, one behind the other: what they prove stands above each.
-/
section
namespace Go.Proofs.YtooogaogbffjfaaDoor.Ext
set_option maxRecDepth 100000
open Go.RowKit Go.Proofs.YtooogaogbffjfaaDoorW.PrintWords Go.Proofs.YtooogaogbffjfaaDoorW.PrintLast Go.Proofs.YtooogaogbffjfaaDoorW.PrintMore
set_option linter.unusedVariables false
set_option linter.unusedSimpArgs false
set_option maxRecDepth 100000 in
set_option maxHeartbeats 1000000 in
theorem Chain_walk (a b : ByteArray) (hsz : a.size + b.size ≤ 140737488349000) (w : World) (hG : GL w) :
    Calls Tryd.prog 35 #[.string a, .string b] w fun e w' => e = .returned (.string (hash (⟨#[2]⟩ ++ (a ++ b)))) ∧ Below w.heap.size w w' := by
  have HG := Lib.hid hG
  clear hG
  have hj : (Lib.join ([a, b].map (·.data.toList)) (⟨#[]⟩ : ByteArray).data.toList).length ≤ 140737488349000 := by
    have h1 := congrArg ByteArray.size (join_nothing [a, b])
    have h2 : ([a, b].foldr (fun a b => a ++ b) (⟨#[]⟩ : ByteArray)).size ≤ 140737488349000 := by
      simp only [List.foldr_cons, List.foldr_nil, ByteArray.size_append]
      have h0 : (⟨#[]⟩ : ByteArray).size = 0 := rfl
      omega
    rw [← h1] at h2
    simpa [ByteArray.size] using h2
  go_enter Tryd.func35, Tryd.ntmps35
  go_wp2_with (first | (go_at_call 56; refine (marked_walk ⟨#[2]⟩ _).mono ?_; rintro e w' ⟨rfl, rfl⟩) | (go_at_call 69; refine (marked1_walk _ _ 2 [a, b] ⟨#[2]⟩ _ (HG.out.below (((Below.refl _ _).alloc (Nat.le_refl _) _).alloc (by simp) _)) (c_old (c_new _ _ _ _ _ _ rfl rfl)) (strs_new _ _ _ _ [a, b] rfl (by simp)) (by simp) (by simp) (by simp) hj (by decide)).mono ?_; rintro e w2 ⟨rfl, hb2⟩) | fail)
  go_ret
  refine ⟨?_, Below.trans (((Below.refl _ _).alloc (Nat.le_refl _) _).alloc (by simp) _) (hb2.mono (by simp; omega))⟩
  show Ending.returned (.string (hash (⟨#[2]⟩ ++ [a, b].foldr (fun a b => a ++ b) ⟨#[]⟩))) = _
  simp only [List.foldr_cons, List.foldr_nil]
  rw [ba_nil]
end Go.Proofs.YtooogaogbffjfaaDoor.Ext
end
