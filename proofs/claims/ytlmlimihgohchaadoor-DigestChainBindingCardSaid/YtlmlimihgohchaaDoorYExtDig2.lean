import Derived.Test.YtlmlimihgohchaaDoorYExtn
/-
  Texts of this claim, one behind the other: what they prove stands above each.
-/
section
/-
  The contracts of Proof and Extension, in the print's form.
-/
namespace Go.Proofs.YtlmlimihgohchaaDoor.Ext
open Go.RowKit Go.Shelf Go.Proofs.YtlmlimihgohchaaDoorW.PrintWords Go.Proofs.YtlmlimihgohchaaDoorW.PrintLast Go.Proofs.YtlmlimihgohchaaDoorW.PrintMore
set_option linter.unusedVariables false
set_option linter.unusedSimpArgs false
attribute [local go_sem] Oper.semAt_some
attribute [local go_sem ↓] Go.wp_at_zero Go.wp_at_succ
theorem R_nil (w : World) (N : Nat) : Kd.R Kd.string 9 w N (fun _ => True) (.slice none 0 0) [] := ⟨fun _ _ => trivial, OwnRow.none_ _ _ _ _ _⟩
theorem Proof_odd (A : Option Addr) (c n : Nat) (i : Int) (w : World) (hi : ¬ (0 ≤ i ∧ i < n)) :
    Calls Tryd.prog 14 #[.slice A n c, .int .i64 i] w fun e w' => e = .returned (.tuple #[.slice none 0 0, .int .i64 2]) ∧ w' = w := by
  by_cases h0 : i < 0
  · have d1 : decide (i < 0) = true := decide_eq_true h0
    go_enter Tryd.func14, Tryd.ntmps14
    go_wp2
    go_step3
    go_wp2
    rw [Exit.noGoto_ret]
    go_ret2
    exact ⟨rfl, rfl⟩
  · have d1 : decide (i < 0) = false := decide_eq_false h0
    have d2 : decide ((n : Int) ≤ i) = true := decide_eq_true (by omega)
    go_enter Tryd.func14, Tryd.ntmps14
    go_wp2
    go_step3
    go_wp2
    rw [Exit.noGoto_ret]
    go_ret2
    exact ⟨rfl, rfl⟩
theorem Extension_odd (A : Option Addr) (c n : Nat) (m : Int) (w : World) (hi : ¬ (0 ≤ m ∧ m ≤ n)) :
    Calls Tryd.prog 16 #[.slice A n c, .int .i64 m] w fun e w' => e = .returned (.tuple #[.slice none 0 0, .int .i64 2]) ∧ w' = w := by
  by_cases h0 : m < 0
  · have d1 : decide (m < 0) = true := decide_eq_true h0
    go_enter Tryd.func16, Tryd.ntmps16
    go_wp2
    go_ret2
    exact ⟨rfl, rfl⟩
  · have d1 : decide (m < 0) = false := decide_eq_false h0
    have d2 : decide ((n : Int) < m) = true := decide_eq_true (by omega)
    go_enter Tryd.func16, Tryd.ntmps16
    go_wp2
    go_ret2
    exact ⟨rfl, rfl⟩
theorem Extension_zero (A : Option Addr) (c n : Nat) (w : World) :
    Calls Tryd.prog 16 #[.slice A n c, .int .i64 0] w fun e w' => e = .returned (.tuple #[.slice none 0 0, .int .i64 0]) ∧ w' = w := by
  have d2 : decide ((n : Int) < 0) = false := decide_eq_false (by omega)
  go_enter Tryd.func16, Tryd.ntmps16
  go_wp2
  go_ret2
  exact ⟨rfl, rfl⟩
def digest_Proof.f (l0 : List ByteArray) (a1 : Int) : Option (List ByteArray × Int) :=
  if fits l0 then (if 0 ≤ a1 ∧ a1 < l0.length then some ((Tree.proofR dE dL dN l0 a1.toNat).reverse, 0) else some ([], 2)) else none
theorem digest_Proof.calls (A0 : Option Addr) (c0 : Nat) (l0 : List ByteArray) (a1 : Int) (r1 : List ByteArray) (r2 : Int) (w : World) (hr0 : Kd.C Kd.string w A0 l0.length l0) (hc0 : l0.length ≤ c0) (hG : GL w) (h : digest_Proof.f l0 a1 = some (r1, r2)) :
    Calls Tryd.prog 14 #[.slice A0 l0.length c0, .int .i64 a1] w fun e w' => ∃ v0_ : Value, e = .returned (.tuple #[v0_, .int .i64 r2]) ∧ Kd.R Kd.string 9 w' w.heap.size (fun _ => True) v0_ r1 ∧ Below w.heap.size w w' := by
  unfold digest_Proof.f at h
  split at h
  · rename_i hf
    split at h
    · rename_i hc
      obtain ⟨rfl, rfl⟩ := Prod.mk.inj (Option.some.inj h)
      obtain ⟨i, rfl⟩ := Int.eq_ofNat_of_zero_le hc.1
      obtain ⟨ad, rfl, _⟩ := hr0.2.2 (by omega)
      exact Proof_walk ad c0 l0 i w hG hr0 hc0 hf.1 hf.2 (by omega)
    · rename_i hc
      obtain ⟨rfl, rfl⟩ := Prod.mk.inj (Option.some.inj h)
      exact (Proof_odd A0 c0 l0.length a1 w hc).mono fun e w' ⟨he, hw⟩ => ⟨_, he, R_nil _ _, hw ▸ Below.refl _ _⟩
  · cases h
def digest_Extension.f (l0 : List ByteArray) (a1 : Int) : Option (List ByteArray × Int) :=
  if fits l0 then (if 0 ≤ a1 ∧ a1 ≤ l0.length then (if a1 = 0 then some ([], 0) else some ((Tree.partR dE dL dN l0 a1.toNat true).reverse, 0)) else some ([], 2)) else none
theorem digest_Extension.calls (A0 : Option Addr) (c0 : Nat) (l0 : List ByteArray) (a1 : Int) (r1 : List ByteArray) (r2 : Int) (w : World) (hr0 : Kd.C Kd.string w A0 l0.length l0) (hc0 : l0.length ≤ c0) (hG : GL w) (h : digest_Extension.f l0 a1 = some (r1, r2)) :
    Calls Tryd.prog 16 #[.slice A0 l0.length c0, .int .i64 a1] w fun e w' => ∃ v0_ : Value, e = .returned (.tuple #[v0_, .int .i64 r2]) ∧ Kd.R Kd.string 9 w' w.heap.size (fun _ => True) v0_ r1 ∧ Below w.heap.size w w' := by
  unfold digest_Extension.f at h
  split at h
  · rename_i hf
    split at h
    · rename_i hc
      split at h
      · rename_i h0
        subst h0
        obtain ⟨rfl, rfl⟩ := Prod.mk.inj (Option.some.inj h)
        exact (Extension_zero A0 c0 l0.length w).mono fun e w' ⟨he, hw⟩ => ⟨_, he, R_nil _ _, hw ▸ Below.refl _ _⟩
      · rename_i h0
        obtain ⟨rfl, rfl⟩ := Prod.mk.inj (Option.some.inj h)
        obtain ⟨i, rfl⟩ := Int.eq_ofNat_of_zero_le hc.1
        obtain ⟨ad, rfl, _⟩ := hr0.2.2 (by omega)
        exact Extension_walk ad c0 l0 i w hG hr0 hc0 hf.1 hf.2 (by omega) (by omega)
    · rename_i hc
      obtain ⟨rfl, rfl⟩ := Prod.mk.inj (Option.some.inj h)
      exact (Extension_odd A0 c0 l0.length a1 w hc).mono fun e w' ⟨he, hw⟩ => ⟨_, he, R_nil _ _, hw ▸ Below.refl _ _⟩
  · cases h
end Go.Proofs.YtlmlimihgohchaaDoor.Ext
end
