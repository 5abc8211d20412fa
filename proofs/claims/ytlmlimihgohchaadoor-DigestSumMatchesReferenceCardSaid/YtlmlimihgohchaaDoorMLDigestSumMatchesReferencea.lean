import Derived.Test.YtlmlimihgohchaaDoorYExtRound
import Derived.Test.YtlmlimihgohchaaDoorRows
import Derived.LaidMore
import Derived.Lib.LaidTab
import Derived.MakeChecks
import Derived.Test.YtlmlimihgohchaaDoorMCa
import Derived.Test.YtlmlimihgohchaaDoorMRc
import Derived.Test.YtlmlimihgohchaaDoorTie
import Derived.Test.YtlmlimihgohchaaDoorCards
import Derived.WalkKit
import Derived.ProofKit
import Derived.OpenShut
import Derived.ShutString
import Derived.ChangeOld
import Derived.Below
import Derived.SizedLaws
import Derived.Stop.Joined
import Derived.SevenTiedAt
import Derived.SliceStrings
/-
  The law's contract, its pure statement, its row and its card. Conditions: the row's own.
-/
section
/-
  From the row's condition on the digest's table to what the walks ask.
-/
namespace Go.Proofs.YtlmlimihgohchaaDoor.Ext
open Go.RowKit
theorem gN : Tryd.prog.globalNamed "aircheck/digest.round" = some 0 := by kernel_rfl
theorem gT : (Tryd.prog.globals[0]?).map (·.type) = some 88 := by kernel_rfl
theorem gl_of_laid {W : World} (h : laidMetH Tryd.prog [("aircheck/digest.round", Rows.laid_aircheck_digest_round)] W) : GL W := by
  rw [MakeChecks.laidMetH_plain _ _ _ (by kernel_rfl)] at h
  have hT := Lib.tabIs_of_head (zs := Sha.kk.map fun n : Nat => (n : Int)) gN gT Tryd.underlying88 Tryd.underlying69 (by kernel_rfl) (by kernel_rfl) h
  intro i hi
  have := hT.cell gN i (by simpa [Sha.kk] using hi)
  rw [this]
  congr 2
  have : i < Sha.kk.length := by simpa [Sha.kk] using hi
  simp [List.getD_eq_getElem?_getD, List.getElem?_eq_getElem this]
end Go.Proofs.YtlmlimihgohchaaDoor.Ext
end
section
-- Written by a program of this session out of the translation's print; not trusted: checked by the kernel.
namespace Go.Proofs.YtlmlimihgohchaaDoor.PD
open Go.Proofs.YtlmlimihgohchaaDoor.Ext
attribute [local go_sem] u32_signed u32_max
open Go.RowKit Go.Proofs.YtlmlimihgohchaaDoorW.PrintWords Go.Proofs.YtlmlimihgohchaaDoorW.PrintLast Go.Proofs.YtlmlimihgohchaaDoorW.PrintMore
attribute [local go_sem] max2_int min2_int max_two min_two max_three min_three max_four min_four   -- for this text's walks alone
set_option linter.unusedVariables false
set_option linter.unusedSimpArgs false
/-! ### aircheckref02_Chain: function 37 -/
def aircheckref02_Chain.f (k : Nat) (a0 : ByteArray) (a1 : ByteArray) : Option (ByteArray) := if 1 + a0.size ≤ 9223372036854775807 then (if ((⟨#[2]⟩ : ByteArray) ++ a0).size + a1.size ≤ 9223372036854775807 then ((aircheckref02_Sum.f k (((⟨#[2]⟩ : ByteArray) ++ a0) ++ a1)).bind fun t559 => (some t559)) else (none)) else (none)
set_option maxHeartbeats 8000000 in
set_option maxRecDepth 100000 in
theorem aircheckref02_Chain.calls (k : Nat) (a0 : ByteArray) (a1 : ByteArray) (r : ByteArray) (w : World) (h : aircheckref02_Chain.f k a0 a1 = some r) :
  Calls Tryd.prog 37 #[.string a0, .string a1] w fun e w' => e = .returned (.string r) ∧ Below w.heap.size w w' := by
 have HB := Aside0.mk (Below.refl w.heap.size w)
 have H : (if 1 + a0.size ≤ 9223372036854775807 then (if ((⟨#[2]⟩ : ByteArray) ++ a0).size + a1.size ≤ 9223372036854775807 then ((aircheckref02_Sum.f k (((⟨#[2]⟩ : ByteArray) ++ a0) ++ a1)).bind fun t559 => (some t559)) else (none)) else (none)) = some r := h
 clear h
 by_cases c3 : 1 + a0.size ≤ 9223372036854775807
 ·rw [if_pos c3] at H
  have c3b0 := eq_true c3
  have c3b1 : decide (1 + a0.size ≤ 9223372036854775807) = true := decide_eq_true c3
  try have c3b2 : (9223372036854775807 < 1 + a0.size) = False := eq_false (Nat.not_lt.2 c3)
  obtain ⟨js4, hjs4⟩ : ∃ s_ : ByteArray, ((⟨#[2]⟩ : ByteArray) ++ a0) = s_ := ⟨_, rfl⟩
  replace H : (if js4.size + a1.size ≤ 9223372036854775807 then ((aircheckref02_Sum.f k (js4 ++ a1)).bind fun t559 => (some t559)) else (none)) = some r := by first | (rw [hjs4] at H; exact H) | (simp only [hjs4] at H ⊢; exact H) | exact H
  by_cases c5 : js4.size + a1.size ≤ 9223372036854775807
  ·rw [if_pos c5] at H
   have c5b0 := eq_true c5
   have c5b1 : decide (js4.size + a1.size ≤ 9223372036854775807) = true := decide_eq_true c5
   try have c5b2 : (9223372036854775807 < js4.size + a1.size) = False := eq_false (Nat.not_lt.2 c5)
   obtain ⟨js6, hjs6⟩ : ∃ s_ : ByteArray, (js4 ++ a1) = s_ := ⟨_, rfl⟩
   replace H : ((aircheckref02_Sum.f k js6).bind fun t559 => (some t559)) = some r := by first | (rw [hjs6] at H; exact H) | (simp only [hjs6] at H ⊢; exact H) | exact H
   replace H := Option.bind_eq_some_iff.mp H
   obtain ⟨t559, A70, H⟩ := H
   replace H : (some t559) = some r := H
   have A7 := Aside0.mk A70
   clear A70
   obtain rfl := Option.some.inj H
   go_enter Tryd.func37, Tryd.ntmps37
   go_wp2_with (first | ((with_reducible refine gate_callee (f := 33) rfl ?_); refine goesL_ (some 9) rfl rfl Tryd.func33 (by kernel_rfl) rfl #[.string js6] rfl (by (try simp only [List.map_toArray, List.map_cons, List.map_nil]); first | done | rfl | (simp only [List.length_drop, List.length_take]; rfl)) ?_; (with_reducible refine (aircheckref02_Sum.calls k js6 t559 _ A7.out).mono ?_); rintro e w8 ⟨rfl, hb⟩; refine ⟨_, rfl, ?_⟩; have n0_ := Aside0.mk (below_step (by repeat (first | (with_reducible first | exact HB.out | apply below_alloc | apply pw_below_drewN | apply below_drew1) | exact HB.out)) hb); clear HB; have HB := n0_; clear n0_; (try clear hb); (try clear hb2); (try clear hk); (try clear hi)))
   go_ret
   exact ⟨by first | rfl | (simp [errW_none, errW_some] <;> rfl) | (simp only [← hjs4, ← hjs6]; first | rfl | (simp [errW_none, errW_some] <;> rfl)) | (simp [*, errW_none, errW_some] <;> rfl), by repeat (first | (with_reducible first | exact HB.out | apply below_alloc | apply pw_below_drewN | apply below_drew1) | exact HB.out)⟩
  ·rw [if_neg c5] at H
   exact absurd H (by simp)
 ·rw [if_neg c3] at H
  exact absurd H (by simp)
end Go.Proofs.YtlmlimihgohchaaDoor.PD
end
section
-- Written by a program of this session out of the translation's print; not trusted: checked by the kernel.
namespace Go.Proofs.YtlmlimihgohchaaDoor.PD
open Go.Proofs.YtlmlimihgohchaaDoor.Ext
attribute [local go_sem] u32_signed u32_max
open Go.RowKit Go.Proofs.YtlmlimihgohchaaDoorW.PrintWords Go.Proofs.YtlmlimihgohchaaDoorW.PrintLast Go.Proofs.YtlmlimihgohchaaDoorW.PrintMore
attribute [local go_sem] max2_int min2_int max_two min_two max_three min_three max_four min_four   -- for this text's walks alone
set_option linter.unusedVariables false
set_option linter.unusedSimpArgs false
/-! ### airchecklaw02_DigestSumMatchesReference: function 10 -/
def airchecklaw02_DigestSumMatchesReference.f (k : Nat) (a0 : ByteArray) (a1 : ByteArray) : Option (Bool) := (airchecklaw02_sane.f k).bind fun t560 => (if 0 ≤ (mn (a0.size : Int) 500) then (if (mn (a0.size : Int) 500) ≤ (a0.size : Int) then (if 0 ≤ (mn (a1.size : Int) 500) then (if (mn (a1.size : Int) 500) ≤ (a1.size : Int) then (if t560 = true then ((digest_Sum.f (a0.extract 0 ((mn (a0.size : Int) 500) : Int).toNat)).bind fun t561 => ((aircheckref02_Sum.f k (a0.extract 0 ((mn (a0.size : Int) 500) : Int).toNat)).bind fun t562 => (if t561.toList = t562.toList then ((digest_Leaf.f (a1.extract 0 ((mn (a1.size : Int) 500) : Int).toNat)).bind fun t563 => ((aircheckref02_Leaf.f k (a1.extract 0 ((mn (a1.size : Int) 500) : Int).toNat)).bind fun t564 => (if t563.toList = t564.toList then ((digest_Node.f (a0.extract 0 ((mn (a0.size : Int) 500) : Int).toNat) (a1.extract 0 ((mn (a1.size : Int) 500) : Int).toNat)).bind fun t565 => ((aircheckref02_Node.f k (a0.extract 0 ((mn (a0.size : Int) 500) : Int).toNat) (a1.extract 0 ((mn (a1.size : Int) 500) : Int).toNat)).bind fun t566 => (if t565.toList = t566.toList then ((digest_Chain.f (a1.extract 0 ((mn (a1.size : Int) 500) : Int).toNat) (a0.extract 0 ((mn (a0.size : Int) 500) : Int).toNat)).bind fun t567 => ((aircheckref02_Chain.f k (a1.extract 0 ((mn (a1.size : Int) 500) : Int).toNat) (a0.extract 0 ((mn (a0.size : Int) 500) : Int).toNat)).bind fun t568 => (some (t567.toList == t568.toList)))) else (some false)))) else (some false)))) else (some false)))) else (some false)) else (none)) else (none)) else (none)) else (none))
set_option maxHeartbeats 8000000 in
set_option maxRecDepth 100000 in
theorem airchecklaw02_DigestSumMatchesReference.calls (k : Nat) (a0 : ByteArray) (a1 : ByteArray) (r : Bool) (w : World) (hG : GL w) (h : airchecklaw02_DigestSumMatchesReference.f k a0 a1 = some r) :
  Calls Tryd.prog 10 #[.string a0, .string a1] w fun e w' => e = .returned (.bool r) ∧ Below w.heap.size w w' := by
 have HB := Aside0.mk (Below.refl w.heap.size w)
 have H : ((airchecklaw02_sane.f k).bind fun t560 => (if 0 ≤ (mn (a0.size : Int) 500) then (if (mn (a0.size : Int) 500) ≤ (a0.size : Int) then (if 0 ≤ (mn (a1.size : Int) 500) then (if (mn (a1.size : Int) 500) ≤ (a1.size : Int) then (if t560 = true then ((digest_Sum.f (a0.extract 0 ((mn (a0.size : Int) 500) : Int).toNat)).bind fun t561 => ((aircheckref02_Sum.f k (a0.extract 0 ((mn (a0.size : Int) 500) : Int).toNat)).bind fun t562 => (if t561.toList = t562.toList then ((digest_Leaf.f (a1.extract 0 ((mn (a1.size : Int) 500) : Int).toNat)).bind fun t563 => ((aircheckref02_Leaf.f k (a1.extract 0 ((mn (a1.size : Int) 500) : Int).toNat)).bind fun t564 => (if t563.toList = t564.toList then ((digest_Node.f (a0.extract 0 ((mn (a0.size : Int) 500) : Int).toNat) (a1.extract 0 ((mn (a1.size : Int) 500) : Int).toNat)).bind fun t565 => ((aircheckref02_Node.f k (a0.extract 0 ((mn (a0.size : Int) 500) : Int).toNat) (a1.extract 0 ((mn (a1.size : Int) 500) : Int).toNat)).bind fun t566 => (if t565.toList = t566.toList then ((digest_Chain.f (a1.extract 0 ((mn (a1.size : Int) 500) : Int).toNat) (a0.extract 0 ((mn (a0.size : Int) 500) : Int).toNat)).bind fun t567 => ((aircheckref02_Chain.f k (a1.extract 0 ((mn (a1.size : Int) 500) : Int).toNat) (a0.extract 0 ((mn (a0.size : Int) 500) : Int).toNat)).bind fun t568 => (some (t567.toList == t568.toList)))) else (some false)))) else (some false)))) else (some false)))) else (some false)) else (none)) else (none)) else (none)) else (none))) = some r := h
 clear h
 replace H := Option.bind_eq_some_iff.mp H
 obtain ⟨t560, A30, H⟩ := H
 replace H : (if 0 ≤ (mn (a0.size : Int) 500) then (if (mn (a0.size : Int) 500) ≤ (a0.size : Int) then (if 0 ≤ (mn (a1.size : Int) 500) then (if (mn (a1.size : Int) 500) ≤ (a1.size : Int) then (if t560 = true then ((digest_Sum.f (a0.extract 0 ((mn (a0.size : Int) 500) : Int).toNat)).bind fun t561 => ((aircheckref02_Sum.f k (a0.extract 0 ((mn (a0.size : Int) 500) : Int).toNat)).bind fun t562 => (if t561.toList = t562.toList then ((digest_Leaf.f (a1.extract 0 ((mn (a1.size : Int) 500) : Int).toNat)).bind fun t563 => ((aircheckref02_Leaf.f k (a1.extract 0 ((mn (a1.size : Int) 500) : Int).toNat)).bind fun t564 => (if t563.toList = t564.toList then ((digest_Node.f (a0.extract 0 ((mn (a0.size : Int) 500) : Int).toNat) (a1.extract 0 ((mn (a1.size : Int) 500) : Int).toNat)).bind fun t565 => ((aircheckref02_Node.f k (a0.extract 0 ((mn (a0.size : Int) 500) : Int).toNat) (a1.extract 0 ((mn (a1.size : Int) 500) : Int).toNat)).bind fun t566 => (if t565.toList = t566.toList then ((digest_Chain.f (a1.extract 0 ((mn (a1.size : Int) 500) : Int).toNat) (a0.extract 0 ((mn (a0.size : Int) 500) : Int).toNat)).bind fun t567 => ((aircheckref02_Chain.f k (a1.extract 0 ((mn (a1.size : Int) 500) : Int).toNat) (a0.extract 0 ((mn (a0.size : Int) 500) : Int).toNat)).bind fun t568 => (some (t567.toList == t568.toList)))) else (some false)))) else (some false)))) else (some false)))) else (some false)) else (none)) else (none)) else (none)) else (none)) = some r := H
 have A3 := Aside0.mk A30
 clear A30
 obtain ⟨ji4, hji4⟩ : ∃ j_ : Int, (mn (a0.size : Int) 500) = j_ := ⟨_, rfl⟩
 replace H : (if 0 ≤ (ji4) then (if (ji4) ≤ (a0.size : Int) then (if 0 ≤ (mn (a1.size : Int) 500) then (if (mn (a1.size : Int) 500) ≤ (a1.size : Int) then (if t560 = true then ((digest_Sum.f (a0.extract 0 ((ji4) : Int).toNat)).bind fun t561 => ((aircheckref02_Sum.f k (a0.extract 0 ((ji4) : Int).toNat)).bind fun t562 => (if t561.toList = t562.toList then ((digest_Leaf.f (a1.extract 0 ((mn (a1.size : Int) 500) : Int).toNat)).bind fun t563 => ((aircheckref02_Leaf.f k (a1.extract 0 ((mn (a1.size : Int) 500) : Int).toNat)).bind fun t564 => (if t563.toList = t564.toList then ((digest_Node.f (a0.extract 0 ((ji4) : Int).toNat) (a1.extract 0 ((mn (a1.size : Int) 500) : Int).toNat)).bind fun t565 => ((aircheckref02_Node.f k (a0.extract 0 ((ji4) : Int).toNat) (a1.extract 0 ((mn (a1.size : Int) 500) : Int).toNat)).bind fun t566 => (if t565.toList = t566.toList then ((digest_Chain.f (a1.extract 0 ((mn (a1.size : Int) 500) : Int).toNat) (a0.extract 0 ((ji4) : Int).toNat)).bind fun t567 => ((aircheckref02_Chain.f k (a1.extract 0 ((mn (a1.size : Int) 500) : Int).toNat) (a0.extract 0 ((ji4) : Int).toNat)).bind fun t568 => (some (t567.toList == t568.toList)))) else (some false)))) else (some false)))) else (some false)))) else (some false)) else (none)) else (none)) else (none)) else (none)) = some r := by first | (rw [hji4] at H; exact H) | (simp only [hji4] at H ⊢; exact H)
 (try rw [hji4] at A3)
 (try (have hji4h : ji4 ≤ 500 := by (rw [← hji4]; unfold mn; (repeat' split) <;> omega)))
 (try (have hji4g : ji4 ≤ 64 := by omega))
 (try (have hji4l : 0 ≤ ji4 := by (rw [← hji4]; unfold mn; (repeat' split) <;> omega)))
 (try (have hji4m : 0 ≤ ji4 := by omega))
 have hji4_ : (if 500 < (a0.size : Int) then 500 else (a0.size : Int)) = ji4 := hji4
 by_cases c5 : 0 ≤ (ji4)
 ·rw [if_pos c5] at H
  have c5b0 := eq_true c5
  have c5b1 : decide (0 ≤ (ji4)) = true := decide_eq_true c5
  clear c5
  by_cases c6 : (ji4) ≤ (a0.size : Int)
  ·rw [if_pos c6] at H
   have c6b0 := eq_true c6
   have c6b1 : decide ((ji4) ≤ (a0.size : Int)) = true := decide_eq_true c6
   clear c6
   obtain ⟨js7, hjs7⟩ : ∃ s_ : ByteArray, (a0.extract 0 ((ji4) : Int).toNat) = s_ := ⟨_, rfl⟩
   replace H : (if 0 ≤ (mn (a1.size : Int) 500) then (if (mn (a1.size : Int) 500) ≤ (a1.size : Int) then (if t560 = true then ((digest_Sum.f js7).bind fun t561 => ((aircheckref02_Sum.f k js7).bind fun t562 => (if t561.toList = t562.toList then ((digest_Leaf.f (a1.extract 0 ((mn (a1.size : Int) 500) : Int).toNat)).bind fun t563 => ((aircheckref02_Leaf.f k (a1.extract 0 ((mn (a1.size : Int) 500) : Int).toNat)).bind fun t564 => (if t563.toList = t564.toList then ((digest_Node.f js7 (a1.extract 0 ((mn (a1.size : Int) 500) : Int).toNat)).bind fun t565 => ((aircheckref02_Node.f k js7 (a1.extract 0 ((mn (a1.size : Int) 500) : Int).toNat)).bind fun t566 => (if t565.toList = t566.toList then ((digest_Chain.f (a1.extract 0 ((mn (a1.size : Int) 500) : Int).toNat) js7).bind fun t567 => ((aircheckref02_Chain.f k (a1.extract 0 ((mn (a1.size : Int) 500) : Int).toNat) js7).bind fun t568 => (some (t567.toList == t568.toList)))) else (some false)))) else (some false)))) else (some false)))) else (some false)) else (none)) else (none)) = some r := by first | (rw [hjs7] at H; exact H) | (simp only [hjs7] at H ⊢; exact H) | exact H
   obtain ⟨ji8, hji8⟩ : ∃ j_ : Int, (mn (a1.size : Int) 500) = j_ := ⟨_, rfl⟩
   replace H : (if 0 ≤ (ji8) then (if (ji8) ≤ (a1.size : Int) then (if t560 = true then ((digest_Sum.f js7).bind fun t561 => ((aircheckref02_Sum.f k js7).bind fun t562 => (if t561.toList = t562.toList then ((digest_Leaf.f (a1.extract 0 ((ji8) : Int).toNat)).bind fun t563 => ((aircheckref02_Leaf.f k (a1.extract 0 ((ji8) : Int).toNat)).bind fun t564 => (if t563.toList = t564.toList then ((digest_Node.f js7 (a1.extract 0 ((ji8) : Int).toNat)).bind fun t565 => ((aircheckref02_Node.f k js7 (a1.extract 0 ((ji8) : Int).toNat)).bind fun t566 => (if t565.toList = t566.toList then ((digest_Chain.f (a1.extract 0 ((ji8) : Int).toNat) js7).bind fun t567 => ((aircheckref02_Chain.f k (a1.extract 0 ((ji8) : Int).toNat) js7).bind fun t568 => (some (t567.toList == t568.toList)))) else (some false)))) else (some false)))) else (some false)))) else (some false)) else (none)) else (none)) = some r := by first | (rw [hji8] at H; exact H) | (simp only [hji8] at H ⊢; exact H)
   (try rw [hji8] at A3)
   (try (have hji8h : ji8 ≤ 500 := by (rw [← hji8]; unfold mn; (repeat' split) <;> omega)))
   (try (have hji8g : ji8 ≤ 64 := by omega))
   (try (have hji8l : 0 ≤ ji8 := by (rw [← hji8]; unfold mn; (repeat' split) <;> omega)))
   (try (have hji8m : 0 ≤ ji8 := by omega))
   have hji8_ : (if 500 < (a1.size : Int) then 500 else (a1.size : Int)) = ji8 := hji8
   by_cases c9 : 0 ≤ (ji8)
   ·rw [if_pos c9] at H
    have c9b0 := eq_true c9
    have c9b1 : decide (0 ≤ (ji8)) = true := decide_eq_true c9
    clear c9
    by_cases c10 : (ji8) ≤ (a1.size : Int)
    ·rw [if_pos c10] at H
     have c10b0 := eq_true c10
     have c10b1 : decide ((ji8) ≤ (a1.size : Int)) = true := decide_eq_true c10
     clear c10
     obtain ⟨js11, hjs11⟩ : ∃ s_ : ByteArray, (a1.extract 0 ((ji8) : Int).toNat) = s_ := ⟨_, rfl⟩
     replace H : (if t560 = true then ((digest_Sum.f js7).bind fun t561 => ((aircheckref02_Sum.f k js7).bind fun t562 => (if t561.toList = t562.toList then ((digest_Leaf.f js11).bind fun t563 => ((aircheckref02_Leaf.f k js11).bind fun t564 => (if t563.toList = t564.toList then ((digest_Node.f js7 js11).bind fun t565 => ((aircheckref02_Node.f k js7 js11).bind fun t566 => (if t565.toList = t566.toList then ((digest_Chain.f js11 js7).bind fun t567 => ((aircheckref02_Chain.f k js11 js7).bind fun t568 => (some (t567.toList == t568.toList)))) else (some false)))) else (some false)))) else (some false)))) else (some false)) = some r := by first | (rw [hjs11] at H; exact H) | (simp only [hjs11] at H ⊢; exact H) | exact H
     by_cases c12 : t560 = true
     ·subst c12
      have H1 : ((digest_Sum.f js7).bind fun t561 => ((aircheckref02_Sum.f k js7).bind fun t562 => (if t561.toList = t562.toList then ((digest_Leaf.f js11).bind fun t563 => ((aircheckref02_Leaf.f k js11).bind fun t564 => (if t563.toList = t564.toList then ((digest_Node.f js7 js11).bind fun t565 => ((aircheckref02_Node.f k js7 js11).bind fun t566 => (if t565.toList = t566.toList then ((digest_Chain.f js11 js7).bind fun t567 => ((aircheckref02_Chain.f k js11 js7).bind fun t568 => (some (t567.toList == t568.toList)))) else (some false)))) else (some false)))) else (some false)))) = some r := by rw [if_pos rfl] at H; exact H
      clear H
      have H := H1
      clear H1
      replace H := Option.bind_eq_some_iff.mp H
      obtain ⟨t561, A130, H⟩ := H
      replace H : ((aircheckref02_Sum.f k js7).bind fun t562 => (if t561.toList = t562.toList then ((digest_Leaf.f js11).bind fun t563 => ((aircheckref02_Leaf.f k js11).bind fun t564 => (if t563.toList = t564.toList then ((digest_Node.f js7 js11).bind fun t565 => ((aircheckref02_Node.f k js7 js11).bind fun t566 => (if t565.toList = t566.toList then ((digest_Chain.f js11 js7).bind fun t567 => ((aircheckref02_Chain.f k js11 js7).bind fun t568 => (some (t567.toList == t568.toList)))) else (some false)))) else (some false)))) else (some false))) = some r := H
      have A13 := Aside0.mk A130
      clear A130
      replace H := Option.bind_eq_some_iff.mp H
      obtain ⟨t562, A140, H⟩ := H
      replace H : (if t561.toList = t562.toList then ((digest_Leaf.f js11).bind fun t563 => ((aircheckref02_Leaf.f k js11).bind fun t564 => (if t563.toList = t564.toList then ((digest_Node.f js7 js11).bind fun t565 => ((aircheckref02_Node.f k js7 js11).bind fun t566 => (if t565.toList = t566.toList then ((digest_Chain.f js11 js7).bind fun t567 => ((aircheckref02_Chain.f k js11 js7).bind fun t568 => (some (t567.toList == t568.toList)))) else (some false)))) else (some false)))) else (some false)) = some r := H
      have A14 := Aside0.mk A140
      clear A140
      by_cases c15 : t561.toList = t562.toList
      ·rw [if_pos c15] at H
       have c15b0 : (t561.toList == t562.toList) = true := beq_iff_eq.mpr c15
       have c15b1 : (t561.toList != t562.toList) = false := bne_eq_false_iff_eq.mpr c15
       clear c15
       replace H := Option.bind_eq_some_iff.mp H
       obtain ⟨t563, A160, H⟩ := H
       replace H : ((aircheckref02_Leaf.f k js11).bind fun t564 => (if t563.toList = t564.toList then ((digest_Node.f js7 js11).bind fun t565 => ((aircheckref02_Node.f k js7 js11).bind fun t566 => (if t565.toList = t566.toList then ((digest_Chain.f js11 js7).bind fun t567 => ((aircheckref02_Chain.f k js11 js7).bind fun t568 => (some (t567.toList == t568.toList)))) else (some false)))) else (some false))) = some r := H
       have A16 := Aside0.mk A160
       clear A160
       replace H := Option.bind_eq_some_iff.mp H
       obtain ⟨t564, A170, H⟩ := H
       replace H : (if t563.toList = t564.toList then ((digest_Node.f js7 js11).bind fun t565 => ((aircheckref02_Node.f k js7 js11).bind fun t566 => (if t565.toList = t566.toList then ((digest_Chain.f js11 js7).bind fun t567 => ((aircheckref02_Chain.f k js11 js7).bind fun t568 => (some (t567.toList == t568.toList)))) else (some false)))) else (some false)) = some r := H
       have A17 := Aside0.mk A170
       clear A170
       by_cases c18 : t563.toList = t564.toList
       ·rw [if_pos c18] at H
        have c18b0 : (t563.toList == t564.toList) = true := beq_iff_eq.mpr c18
        have c18b1 : (t563.toList != t564.toList) = false := bne_eq_false_iff_eq.mpr c18
        clear c18
        replace H := Option.bind_eq_some_iff.mp H
        obtain ⟨t565, A190, H⟩ := H
        replace H : ((aircheckref02_Node.f k js7 js11).bind fun t566 => (if t565.toList = t566.toList then ((digest_Chain.f js11 js7).bind fun t567 => ((aircheckref02_Chain.f k js11 js7).bind fun t568 => (some (t567.toList == t568.toList)))) else (some false))) = some r := H
        have A19 := Aside0.mk A190
        clear A190
        replace H := Option.bind_eq_some_iff.mp H
        obtain ⟨t566, A200, H⟩ := H
        replace H : (if t565.toList = t566.toList then ((digest_Chain.f js11 js7).bind fun t567 => ((aircheckref02_Chain.f k js11 js7).bind fun t568 => (some (t567.toList == t568.toList)))) else (some false)) = some r := H
        have A20 := Aside0.mk A200
        clear A200
        by_cases c21 : t565.toList = t566.toList
        ·rw [if_pos c21] at H
         have c21b0 : (t565.toList == t566.toList) = true := beq_iff_eq.mpr c21
         have c21b1 : (t565.toList != t566.toList) = false := bne_eq_false_iff_eq.mpr c21
         clear c21
         replace H := Option.bind_eq_some_iff.mp H
         obtain ⟨t567, A220, H⟩ := H
         replace H : ((aircheckref02_Chain.f k js11 js7).bind fun t568 => (some (t567.toList == t568.toList))) = some r := H
         have A22 := Aside0.mk A220
         clear A220
         replace H := Option.bind_eq_some_iff.mp H
         obtain ⟨t568, A230, H⟩ := H
         replace H : (some (t567.toList == t568.toList)) = some r := H
         have A23 := Aside0.mk A230
         clear A230
         obtain rfl := Option.some.inj H
         go_enter Tryd.func10, Tryd.ntmps10
         go_wp2_with (first | ((with_reducible refine gate_callee (f := 12) rfl ?_); refine goesL_ (some 6) rfl rfl Tryd.func12 (by kernel_rfl) rfl #[] rfl (by (try simp only [List.map_toArray, List.map_cons, List.map_nil]); first | done | rfl | (simp only [List.length_drop, List.length_take]; rfl)) ?_; (with_reducible refine (airchecklaw02_sane.calls k  true _ ?side1 A3.out).mono ?_); (case side1 => first | exact hG | exact GL.below hG (by repeat (first | (with_reducible first | exact HB.out | apply below_alloc | apply pw_below_drewN | apply below_drew1) | exact HB.out))); rintro e w24 ⟨rfl, hb⟩; refine ⟨_, rfl, ?_⟩; have n0_ := Aside0.mk (below_step (by repeat (first | (with_reducible first | exact HB.out | apply below_alloc | apply pw_below_drewN | apply below_drew1) | exact HB.out)) hb); clear HB; have HB := n0_; clear n0_; (try clear hb); (try clear hb2); (try clear hk); (try clear hi)) | (go_at_call 30; (with_reducible refine (digest_Sum.calls js7 t561 _ ?side1 A13.out).mono ?_); (case side1 => first | exact hG | exact GL.below hG (by repeat (first | (with_reducible first | exact HB.out | apply below_alloc | apply pw_below_drewN | apply below_drew1) | exact HB.out))); rintro e w25 ⟨rfl, hb⟩; have n0_ := Aside0.mk (below_step (by repeat (first | (with_reducible first | exact HB.out | apply below_alloc | apply pw_below_drewN | apply below_drew1) | exact HB.out)) hb); clear HB; have HB := n0_; clear n0_; (try clear hb); (try clear hb2); (try clear hk); (try clear hi)) | (go_at_call 33; (with_reducible refine (aircheckref02_Sum.calls k js7 t562 _ A14.out).mono ?_); rintro e w26 ⟨rfl, hb⟩; have n0_ := Aside0.mk (below_step (by repeat (first | (with_reducible first | exact HB.out | apply below_alloc | apply pw_below_drewN | apply below_drew1) | exact HB.out)) hb); clear HB; have HB := n0_; clear n0_; (try clear hb); (try clear hb2); (try clear hk); (try clear hi)) | (go_at_call 29; (with_reducible refine (digest_Leaf.calls js11 t563 _ ?side1 A16.out).mono ?_); (case side1 => first | exact hG | exact GL.below hG (by repeat (first | (with_reducible first | exact HB.out | apply below_alloc | apply pw_below_drewN | apply below_drew1) | exact HB.out))); rintro e w27 ⟨rfl, hb⟩; have n0_ := Aside0.mk (below_step (by repeat (first | (with_reducible first | exact HB.out | apply below_alloc | apply pw_below_drewN | apply below_drew1) | exact HB.out)) hb); clear HB; have HB := n0_; clear n0_; (try clear hb); (try clear hb2); (try clear hk); (try clear hi)) | (go_at_call 34; (with_reducible refine (aircheckref02_Leaf.calls k js11 t564 _ A17.out).mono ?_); rintro e w28 ⟨rfl, hb⟩; have n0_ := Aside0.mk (below_step (by repeat (first | (with_reducible first | exact HB.out | apply below_alloc | apply pw_below_drewN | apply below_drew1) | exact HB.out)) hb); clear HB; have HB := n0_; clear n0_; (try clear hb); (try clear hb2); (try clear hk); (try clear hi)) | (go_at_call 32; (with_reducible refine (digest_Node.calls js7 js11 t565 _ ?side1 A19.out).mono ?_); (case side1 => first | exact hG | exact GL.below hG (by repeat (first | (with_reducible first | exact HB.out | apply below_alloc | apply pw_below_drewN | apply below_drew1) | exact HB.out))); rintro e w29 ⟨rfl, hb⟩; have n0_ := Aside0.mk (below_step (by repeat (first | (with_reducible first | exact HB.out | apply below_alloc | apply pw_below_drewN | apply below_drew1) | exact HB.out)) hb); clear HB; have HB := n0_; clear n0_; (try clear hb); (try clear hb2); (try clear hk); (try clear hi)) | (go_at_call 35; (with_reducible refine (aircheckref02_Node.calls k js7 js11 t566 _ A20.out).mono ?_); rintro e w30 ⟨rfl, hb⟩; have n0_ := Aside0.mk (below_step (by repeat (first | (with_reducible first | exact HB.out | apply below_alloc | apply pw_below_drewN | apply below_drew1) | exact HB.out)) hb); clear HB; have HB := n0_; clear n0_; (try clear hb); (try clear hb2); (try clear hk); (try clear hi)) | (go_at_call 36; (with_reducible refine (digest_Chain.calls js11 js7 t567 _ ?side1 A22.out).mono ?_); (case side1 => first | exact hG | exact GL.below hG (by repeat (first | (with_reducible first | exact HB.out | apply below_alloc | apply pw_below_drewN | apply below_drew1) | exact HB.out))); rintro e w31 ⟨rfl, hb⟩; have n0_ := Aside0.mk (below_step (by repeat (first | (with_reducible first | exact HB.out | apply below_alloc | apply pw_below_drewN | apply below_drew1) | exact HB.out)) hb); clear HB; have HB := n0_; clear n0_; (try clear hb); (try clear hb2); (try clear hk); (try clear hi)) | (go_at_call 37; (with_reducible refine (aircheckref02_Chain.calls k js11 js7 t568 _ A23.out).mono ?_); rintro e w32 ⟨rfl, hb⟩; have n0_ := Aside0.mk (below_step (by repeat (first | (with_reducible first | exact HB.out | apply below_alloc | apply pw_below_drewN | apply below_drew1) | exact HB.out)) hb); clear HB; have HB := n0_; clear n0_; (try clear hb); (try clear hb2); (try clear hk); (try clear hi)))
         go_ret
         exact ⟨by first | rfl | (simp [errW_none, errW_some] <;> rfl) | (simp only [← hji4, ← hjs7, ← hji8, ← hjs11]; first | rfl | (simp [errW_none, errW_some] <;> rfl)) | (simp [*, errW_none, errW_some] <;> rfl), by repeat (first | (with_reducible first | exact HB.out | apply below_alloc | apply pw_below_drewN | apply below_drew1) | exact HB.out)⟩
        ·rw [if_neg c21] at H
         have c21b0 : (t565.toList == t566.toList) = false := beq_eq_false_iff_ne.mpr c21
         have c21b1 : (t565.toList != t566.toList) = true := bne_iff_ne.mpr c21
         obtain rfl := Option.some.inj H
         go_enter Tryd.func10, Tryd.ntmps10
         go_wp2_with (first | ((with_reducible refine gate_callee (f := 12) rfl ?_); refine goesL_ (some 6) rfl rfl Tryd.func12 (by kernel_rfl) rfl #[] rfl (by (try simp only [List.map_toArray, List.map_cons, List.map_nil]); first | done | rfl | (simp only [List.length_drop, List.length_take]; rfl)) ?_; (with_reducible refine (airchecklaw02_sane.calls k  true _ ?side1 A3.out).mono ?_); (case side1 => first | exact hG | exact GL.below hG (by repeat (first | (with_reducible first | exact HB.out | apply below_alloc | apply pw_below_drewN | apply below_drew1) | exact HB.out))); rintro e w33 ⟨rfl, hb⟩; refine ⟨_, rfl, ?_⟩; have n0_ := Aside0.mk (below_step (by repeat (first | (with_reducible first | exact HB.out | apply below_alloc | apply pw_below_drewN | apply below_drew1) | exact HB.out)) hb); clear HB; have HB := n0_; clear n0_; (try clear hb); (try clear hb2); (try clear hk); (try clear hi)) | (go_at_call 30; (with_reducible refine (digest_Sum.calls js7 t561 _ ?side1 A13.out).mono ?_); (case side1 => first | exact hG | exact GL.below hG (by repeat (first | (with_reducible first | exact HB.out | apply below_alloc | apply pw_below_drewN | apply below_drew1) | exact HB.out))); rintro e w34 ⟨rfl, hb⟩; have n0_ := Aside0.mk (below_step (by repeat (first | (with_reducible first | exact HB.out | apply below_alloc | apply pw_below_drewN | apply below_drew1) | exact HB.out)) hb); clear HB; have HB := n0_; clear n0_; (try clear hb); (try clear hb2); (try clear hk); (try clear hi)) | (go_at_call 33; (with_reducible refine (aircheckref02_Sum.calls k js7 t562 _ A14.out).mono ?_); rintro e w35 ⟨rfl, hb⟩; have n0_ := Aside0.mk (below_step (by repeat (first | (with_reducible first | exact HB.out | apply below_alloc | apply pw_below_drewN | apply below_drew1) | exact HB.out)) hb); clear HB; have HB := n0_; clear n0_; (try clear hb); (try clear hb2); (try clear hk); (try clear hi)) | (go_at_call 29; (with_reducible refine (digest_Leaf.calls js11 t563 _ ?side1 A16.out).mono ?_); (case side1 => first | exact hG | exact GL.below hG (by repeat (first | (with_reducible first | exact HB.out | apply below_alloc | apply pw_below_drewN | apply below_drew1) | exact HB.out))); rintro e w36 ⟨rfl, hb⟩; have n0_ := Aside0.mk (below_step (by repeat (first | (with_reducible first | exact HB.out | apply below_alloc | apply pw_below_drewN | apply below_drew1) | exact HB.out)) hb); clear HB; have HB := n0_; clear n0_; (try clear hb); (try clear hb2); (try clear hk); (try clear hi)) | (go_at_call 34; (with_reducible refine (aircheckref02_Leaf.calls k js11 t564 _ A17.out).mono ?_); rintro e w37 ⟨rfl, hb⟩; have n0_ := Aside0.mk (below_step (by repeat (first | (with_reducible first | exact HB.out | apply below_alloc | apply pw_below_drewN | apply below_drew1) | exact HB.out)) hb); clear HB; have HB := n0_; clear n0_; (try clear hb); (try clear hb2); (try clear hk); (try clear hi)) | (go_at_call 32; (with_reducible refine (digest_Node.calls js7 js11 t565 _ ?side1 A19.out).mono ?_); (case side1 => first | exact hG | exact GL.below hG (by repeat (first | (with_reducible first | exact HB.out | apply below_alloc | apply pw_below_drewN | apply below_drew1) | exact HB.out))); rintro e w38 ⟨rfl, hb⟩; have n0_ := Aside0.mk (below_step (by repeat (first | (with_reducible first | exact HB.out | apply below_alloc | apply pw_below_drewN | apply below_drew1) | exact HB.out)) hb); clear HB; have HB := n0_; clear n0_; (try clear hb); (try clear hb2); (try clear hk); (try clear hi)) | (go_at_call 35; (with_reducible refine (aircheckref02_Node.calls k js7 js11 t566 _ A20.out).mono ?_); rintro e w39 ⟨rfl, hb⟩; have n0_ := Aside0.mk (below_step (by repeat (first | (with_reducible first | exact HB.out | apply below_alloc | apply pw_below_drewN | apply below_drew1) | exact HB.out)) hb); clear HB; have HB := n0_; clear n0_; (try clear hb); (try clear hb2); (try clear hk); (try clear hi)))
         go_ret
         exact ⟨by first | rfl | (simp [errW_none, errW_some] <;> rfl) | (simp only [← hji4, ← hjs7, ← hji8, ← hjs11]; first | rfl | (simp [errW_none, errW_some] <;> rfl)) | (simp [*, errW_none, errW_some] <;> rfl), by repeat (first | (with_reducible first | exact HB.out | apply below_alloc | apply pw_below_drewN | apply below_drew1) | exact HB.out)⟩
       ·rw [if_neg c18] at H
        have c18b0 : (t563.toList == t564.toList) = false := beq_eq_false_iff_ne.mpr c18
        have c18b1 : (t563.toList != t564.toList) = true := bne_iff_ne.mpr c18
        obtain rfl := Option.some.inj H
        go_enter Tryd.func10, Tryd.ntmps10
        go_wp2_with (first | ((with_reducible refine gate_callee (f := 12) rfl ?_); refine goesL_ (some 6) rfl rfl Tryd.func12 (by kernel_rfl) rfl #[] rfl (by (try simp only [List.map_toArray, List.map_cons, List.map_nil]); first | done | rfl | (simp only [List.length_drop, List.length_take]; rfl)) ?_; (with_reducible refine (airchecklaw02_sane.calls k  true _ ?side1 A3.out).mono ?_); (case side1 => first | exact hG | exact GL.below hG (by repeat (first | (with_reducible first | exact HB.out | apply below_alloc | apply pw_below_drewN | apply below_drew1) | exact HB.out))); rintro e w40 ⟨rfl, hb⟩; refine ⟨_, rfl, ?_⟩; have n0_ := Aside0.mk (below_step (by repeat (first | (with_reducible first | exact HB.out | apply below_alloc | apply pw_below_drewN | apply below_drew1) | exact HB.out)) hb); clear HB; have HB := n0_; clear n0_; (try clear hb); (try clear hb2); (try clear hk); (try clear hi)) | (go_at_call 30; (with_reducible refine (digest_Sum.calls js7 t561 _ ?side1 A13.out).mono ?_); (case side1 => first | exact hG | exact GL.below hG (by repeat (first | (with_reducible first | exact HB.out | apply below_alloc | apply pw_below_drewN | apply below_drew1) | exact HB.out))); rintro e w41 ⟨rfl, hb⟩; have n0_ := Aside0.mk (below_step (by repeat (first | (with_reducible first | exact HB.out | apply below_alloc | apply pw_below_drewN | apply below_drew1) | exact HB.out)) hb); clear HB; have HB := n0_; clear n0_; (try clear hb); (try clear hb2); (try clear hk); (try clear hi)) | (go_at_call 33; (with_reducible refine (aircheckref02_Sum.calls k js7 t562 _ A14.out).mono ?_); rintro e w42 ⟨rfl, hb⟩; have n0_ := Aside0.mk (below_step (by repeat (first | (with_reducible first | exact HB.out | apply below_alloc | apply pw_below_drewN | apply below_drew1) | exact HB.out)) hb); clear HB; have HB := n0_; clear n0_; (try clear hb); (try clear hb2); (try clear hk); (try clear hi)) | (go_at_call 29; (with_reducible refine (digest_Leaf.calls js11 t563 _ ?side1 A16.out).mono ?_); (case side1 => first | exact hG | exact GL.below hG (by repeat (first | (with_reducible first | exact HB.out | apply below_alloc | apply pw_below_drewN | apply below_drew1) | exact HB.out))); rintro e w43 ⟨rfl, hb⟩; have n0_ := Aside0.mk (below_step (by repeat (first | (with_reducible first | exact HB.out | apply below_alloc | apply pw_below_drewN | apply below_drew1) | exact HB.out)) hb); clear HB; have HB := n0_; clear n0_; (try clear hb); (try clear hb2); (try clear hk); (try clear hi)) | (go_at_call 34; (with_reducible refine (aircheckref02_Leaf.calls k js11 t564 _ A17.out).mono ?_); rintro e w44 ⟨rfl, hb⟩; have n0_ := Aside0.mk (below_step (by repeat (first | (with_reducible first | exact HB.out | apply below_alloc | apply pw_below_drewN | apply below_drew1) | exact HB.out)) hb); clear HB; have HB := n0_; clear n0_; (try clear hb); (try clear hb2); (try clear hk); (try clear hi)))
        go_ret
        exact ⟨by first | rfl | (simp [errW_none, errW_some] <;> rfl) | (simp only [← hji4, ← hjs7, ← hji8, ← hjs11]; first | rfl | (simp [errW_none, errW_some] <;> rfl)) | (simp [*, errW_none, errW_some] <;> rfl), by repeat (first | (with_reducible first | exact HB.out | apply below_alloc | apply pw_below_drewN | apply below_drew1) | exact HB.out)⟩
      ·rw [if_neg c15] at H
       have c15b0 : (t561.toList == t562.toList) = false := beq_eq_false_iff_ne.mpr c15
       have c15b1 : (t561.toList != t562.toList) = true := bne_iff_ne.mpr c15
       obtain rfl := Option.some.inj H
       go_enter Tryd.func10, Tryd.ntmps10
       go_wp2_with (first | ((with_reducible refine gate_callee (f := 12) rfl ?_); refine goesL_ (some 6) rfl rfl Tryd.func12 (by kernel_rfl) rfl #[] rfl (by (try simp only [List.map_toArray, List.map_cons, List.map_nil]); first | done | rfl | (simp only [List.length_drop, List.length_take]; rfl)) ?_; (with_reducible refine (airchecklaw02_sane.calls k  true _ ?side1 A3.out).mono ?_); (case side1 => first | exact hG | exact GL.below hG (by repeat (first | (with_reducible first | exact HB.out | apply below_alloc | apply pw_below_drewN | apply below_drew1) | exact HB.out))); rintro e w45 ⟨rfl, hb⟩; refine ⟨_, rfl, ?_⟩; have n0_ := Aside0.mk (below_step (by repeat (first | (with_reducible first | exact HB.out | apply below_alloc | apply pw_below_drewN | apply below_drew1) | exact HB.out)) hb); clear HB; have HB := n0_; clear n0_; (try clear hb); (try clear hb2); (try clear hk); (try clear hi)) | (go_at_call 30; (with_reducible refine (digest_Sum.calls js7 t561 _ ?side1 A13.out).mono ?_); (case side1 => first | exact hG | exact GL.below hG (by repeat (first | (with_reducible first | exact HB.out | apply below_alloc | apply pw_below_drewN | apply below_drew1) | exact HB.out))); rintro e w46 ⟨rfl, hb⟩; have n0_ := Aside0.mk (below_step (by repeat (first | (with_reducible first | exact HB.out | apply below_alloc | apply pw_below_drewN | apply below_drew1) | exact HB.out)) hb); clear HB; have HB := n0_; clear n0_; (try clear hb); (try clear hb2); (try clear hk); (try clear hi)) | (go_at_call 33; (with_reducible refine (aircheckref02_Sum.calls k js7 t562 _ A14.out).mono ?_); rintro e w47 ⟨rfl, hb⟩; have n0_ := Aside0.mk (below_step (by repeat (first | (with_reducible first | exact HB.out | apply below_alloc | apply pw_below_drewN | apply below_drew1) | exact HB.out)) hb); clear HB; have HB := n0_; clear n0_; (try clear hb); (try clear hb2); (try clear hk); (try clear hi)))
       go_ret
       exact ⟨by first | rfl | (simp [errW_none, errW_some] <;> rfl) | (simp only [← hji4, ← hjs7, ← hji8, ← hjs11]; first | rfl | (simp [errW_none, errW_some] <;> rfl)) | (simp [*, errW_none, errW_some] <;> rfl), by repeat (first | (with_reducible first | exact HB.out | apply below_alloc | apply pw_below_drewN | apply below_drew1) | exact HB.out)⟩
     ·replace c12 := Bool.eq_false_iff.mpr c12
      subst c12
      have H1 : (some false) = some r := by rw [if_neg (show ¬ (false = true) by decide)] at H; exact H
      clear H
      have H := H1
      clear H1
      obtain rfl := Option.some.inj H
      go_enter Tryd.func10, Tryd.ntmps10
      go_wp2_with (first | ((with_reducible refine gate_callee (f := 12) rfl ?_); refine goesL_ (some 6) rfl rfl Tryd.func12 (by kernel_rfl) rfl #[] rfl (by (try simp only [List.map_toArray, List.map_cons, List.map_nil]); first | done | rfl | (simp only [List.length_drop, List.length_take]; rfl)) ?_; (with_reducible refine (airchecklaw02_sane.calls k  false _ ?side1 A3.out).mono ?_); (case side1 => first | exact hG | exact GL.below hG (by repeat (first | (with_reducible first | exact HB.out | apply below_alloc | apply pw_below_drewN | apply below_drew1) | exact HB.out))); rintro e w48 ⟨rfl, hb⟩; refine ⟨_, rfl, ?_⟩; have n0_ := Aside0.mk (below_step (by repeat (first | (with_reducible first | exact HB.out | apply below_alloc | apply pw_below_drewN | apply below_drew1) | exact HB.out)) hb); clear HB; have HB := n0_; clear n0_; (try clear hb); (try clear hb2); (try clear hk); (try clear hi)))
      go_ret
      exact ⟨by first | rfl | (simp [errW_none, errW_some] <;> rfl) | (simp only [← hji4, ← hjs7, ← hji8, ← hjs11]; first | rfl | (simp [errW_none, errW_some] <;> rfl)) | (simp [*, errW_none, errW_some] <;> rfl), by repeat (first | (with_reducible first | exact HB.out | apply below_alloc | apply pw_below_drewN | apply below_drew1) | exact HB.out)⟩
    ·rw [if_neg c10] at H
     exact absurd H (by simp)
   ·rw [if_neg c9] at H
    exact absurd H (by simp)
  ·rw [if_neg c6] at H
   exact absurd H (by simp)
 ·rw [if_neg c5] at H
  exact absurd H (by simp)
end Go.Proofs.YtlmlimihgohchaaDoor.PD
end
section
/-
  Sum, Leaf, Node and Chain agree with the reference.
-/
set_option linter.unusedVariables false
set_option linter.unusedSimpArgs false
namespace Go.Proofs.YtlmlimihgohchaaDoor.Pure
open Go.RowKit Go.Proofs.YtlmlimihgohchaaDoorW.PrintWords Go.Proofs.YtlmlimihgohchaaDoorW.PrintLast Go.Proofs.YtlmlimihgohchaaDoorW.PrintMore Go.Proofs.YtlmlimihgohchaaDoor.Ext Go.Proofs.YtlmlimihgohchaaDoor.PD Go.Proofs.YtlmlimihgohchaaDoor.DigSpec Go.Proofs.YtlmlimihgohchaaDoor.RefSpec
theorem cut500 (s : ByteArray) : s.extract 0 (((min s.size 500 : Nat) : Int)).toNat = cut 500 s := rfl
theorem chain_ok (a b : ByteArray) (h : a.size + b.size ≤ 140737488349000) : digest_Chain.f a b = some (Ext.hash (⟨#[2]⟩ ++ (a ++ b))) := by unfold digest_Chain.f; rw [if_pos h]
theorem ref_chain (a b : ByteArray) (ha : a.size ≤ 1000) (hb : b.size ≤ 1000) (k : Nat) (hk : 5000 ≤ k) : aircheckref02_Chain.f k a b = some (Ext.hash (⟨#[2]⟩ ++ (a ++ b))) := by
  have hsz : ((⟨#[2]⟩ : ByteArray) ++ (a ++ b)).size = 1 + (a.size + b.size) := by rw [ByteArray.size_append, ByteArray.size_append]; rfl
  unfold aircheckref02_Chain.f
  rw [if_pos (by omega), if_pos (by rw [ByteArray.size_append]; show 1 + _ + _ ≤ _; omega), show ((⟨#[2]⟩ : ByteArray) ++ a) ++ b = ⟨#[2]⟩ ++ (a ++ b) from ByteArray.append_assoc, refsum_is _ (by omega) k (by omega)]
  rfl
theorem DigestSumMatchesReference (a0 a1 : ByteArray) (w0 : a0.size ≤ 140737488351232) (w1 : a1.size ≤ 140737488351232) : ∃ k, airchecklaw02_DigestSumMatchesReference.f k a0 a1 = some true := by
  refine ⟨20000, ?_⟩
  have m0 : mn (a0.size : Int) 500 = ((min a0.size 500 : Nat) : Int) := mn_is a0 500
  have m1 : mn (a1.size : Int) 500 = ((min a1.size 500 : Nat) : Int) := mn_is a1 500
  have hs : (cut 500 a0).size ≤ 500 := by rw [cut_size]; omega
  have ht : (cut 500 a1).size ≤ 500 := by rw [cut_size]; omega
  unfold airchecklaw02_DigestSumMatchesReference.f
  rw [sane_is _ (by omega), Option.bind_some, m0, m1, if_pos (by omega), if_pos (by omega), if_pos (by omega), if_pos (by omega), cut500, cut500]
  generalize cut 500 a0 = s at *
  generalize cut 500 a1 = t at *
  rw [if_pos rfl, sum_ok s (by omega), Option.bind_some, refsum_is s (by omega) 20000 (by omega), Option.bind_some, if_pos rfl, leaf_ok t (by omega), Option.bind_some, ref_leaf t (by omega) 20000 (by omega), Option.bind_some, if_pos rfl,
    node_ok s t (by omega), Option.bind_some, ref_node s t (by omega) (by omega) 20000 (by omega), Option.bind_some, if_pos rfl, chain_ok t s (by omega), Option.bind_some, ref_chain t s (by omega) (by omega) 20000 (by omega), Option.bind_some]
  simp
end Go.Proofs.YtlmlimihgohchaaDoor.Pure
end
section
/-
  The law DigestSumMatchesReference answers true for every input: its row and its tied card. Conditions: the row's own (the listed table reads as the program's start lays it; the card ties that to the program's text).
-/
namespace Go.Proofs.YtlmlimihgohchaaDoor.digestSumMatchesReference
open Go.ChangeShapes Go.WideShapes Go.ChangeAt Go.RowKit
open Go.ChangeMaps (open_string shut_string)
set_option linter.unusedVariables false
theorem own : ownKnob Tryd.prog.godebug = none := by kernel_rfl
theorem laidOut : laidOutB Tryd.prog = true := by kernel_rfl
/-- The program's start meets the condition. -/
theorem door_met (os : Os) (args : Array Value) : laidMetH Tryd.prog [("aircheck/digest.round", Rows.laid_aircheck_digest_round)] ((World.doorLaid Tryd.prog 400 os).forCall (fun _ _ => 0) ⟨#[], args, []⟩).memory :=
  laidMetH_of_parts3 (fuel := 8) (laidMet_of_run' 8 (by kernel_rfl) (by kernel_rfl)) (by kernel_rfl) (by kernel_rfl)
set_option maxRecDepth 100000 in
set_option maxHeartbeats 1000000 in
theorem lifted (os : Os) (started : os.Started) (H : Type) (enc : TypeId × Value → H) :
    ReturnsInHanded {} Tryd.checked os 10 .any (fun w args => (Rows.digestSumMatchesReferenceSpec.pre enc Tryd.prog Tryd.f10 [] false w args ∧ laidMetH Tryd.prog [("aircheck/digest.round", Rows.laid_aircheck_digest_round)] w) ∧ sizedMet enc Tryd.prog Tryd.f10 (OpenSpec.ofChange Rows.digestSumMatchesReferenceSpec) false w args)
      (Rows.digestSumMatchesReferenceSpec.post enc Tryd.prog Tryd.f10 false true false false) := by
  refine returnsInHanded_of_change_and (C := Tryd.checked) (X := fun w _ => laidMetH Tryd.prog [("aircheck/digest.round", Rows.laid_aircheck_digest_round)] w) (fun _ _ _ hh h => h.of_heap hh) own started (by kernel_rfl) Tryd.func10
    (ChangeSpec.witness_shaped (enc := enc) (C := Tryd.checked) (os := os) (X := fun w _ => laidMetH Tryd.prog [("aircheck/digest.round", Rows.laid_aircheck_digest_round)] w) false (World.doorLaid Tryd.prog 400 os) #[.string ByteArray.empty, .string ByteArray.empty] 8 rfl (World.shaped_of_RefB (by kernel_rfl) (by kernel_rfl)) (by kernel_rfl) (by kernel_rfl) (by kernel_rfl) (door_met os _)) ?_
  intro W base args ds gs before hval0 hW hcnd hsz0 hL _
  have hsz : (DataW.weightsEach Tryd.prog (Tryd.f10.params.toList ++ Rows.digestSumMatchesReferenceSpec.plain.varTypes Tryd.prog) (ds ++ gs)).all (· ≤ reachBytes) = true := hsz0
  have hval : ∀ (j : Nat) t v, Tryd.f10.params[j]? = some t → args[j]? = some v → Value.okWide Tryd.prog W .any base t v := hval0
  have hW' := hW
  obtain ⟨p, q, hA0, hV, rfl, hfz, hnd⟩ := hW
  have hA : DataW.TrodAll enc Tryd.prog W 0 (fun _ => true) true Tryd.f10.params.toList args.toList ds p := hA0
  rw [Tryd.params10] at hA hval hsz
  obtain ⟨v0, vs0, d0, ds0, p0, q0, hargs, rfl, rfl, h0, r0⟩ := trodAll_cons hA
  obtain ⟨v1, vs1, d1, ds1, p1, q1, rfl, rfl, rfl, h1, r1⟩ := trodAll_cons r0
  obtain ⟨rfl, rfl, rfl⟩ := trodAll_nil r1
  obtain rfl : args = #[v0, v1] := by cases args; simp_all
  obtain ⟨rfl, rfl⟩ := trodVars_none hV
  obtain ⟨a0, rfl, rfl, rfl, y0⟩ := open_string Tryd.underlying9 (hval 0 9 v0 rfl rfl) h0
  have w0 : a0.size ≤ 140737488351232 := by
    have z := sized_string hsz (j := 0) (t := 9) rfl rfl
    rw [Array.length_toList] at z
    exact z
  obtain ⟨a1, rfl, rfl, rfl, y1⟩ := open_string Tryd.underlying9 (hval 1 9 v1 rfl rfl) h1
  have w1 : a1.size ≤ 140737488351232 := by
    have z := sized_string hsz (j := 1) (t := 9) rfl rfl
    rw [Array.length_toList] at z
    exact z
  clear hA0 hval0 hsz0 hsz
  have hG : Ext.GL W := Ext.gl_of_laid hL
  obtain ⟨k, hk⟩ := Pure.DigestSumMatchesReference a0 a1 w0 w1
  refine (PD.airchecklaw02_DigestSumMatchesReference.calls k a0 a1 true W hG hk).mono fun e W' ⟨he, bel⟩ => ?_
  subst he
  exact ⟨_, rfl, _, _, _, [], _, [], hW', trodAll_mk1 (shut_bool Tryd.underlying4 _), (trodAll_cons_mk (shut_string Tryd.underlying9 y0) (trodAll_cons_mk (shut_string Tryd.underlying9 y1) trodAll_mk0)), rfl, bel.frame _, fun h => by cases h⟩
theorem over : Rows.digestSumMatchesReferenceRow.holds Tryd.pinned (OpenSpec.ofChange Rows.digestSumMatchesReferenceSpec) :=
  OpenClaim.holds_of_wide 10 Tryd.f10 rfl rfl rfl rfl rfl rfl rfl ⟨rfl, rfl, rfl, rfl, rfl⟩ rfl rfl rfl rfl rfl (by kernel_rfl) Tryd.func10 (by kernel_rfl)
    (of_decide_eq_true (by kernel_rfl)) (by unfold Func.isWrapper; first | (rw [if_pos (by decide +kernel)]; kernel_rfl) | (rw [if_neg (by decide +kernel)]; exact ⟨rfl, rfl⟩))
    (fun os started H enc _ => lifted os started H enc)
theorem card_holds : Claim7.holds Tryd.pinned (.plain (OpenSpec.ofChange Rows.digestSumMatchesReferenceSpec)) Rows.digestSumMatchesReferenceCard :=
  Claim7.holds_tied_plain_at .later [] [.data] true (true, "ce2ba14b2c745cbf1c9c1cd819afa2c5f5f240e749974a17a068ca61a237d3cb") false
    over (fun _ h => by cases h) (by kernel_rfl) (fun _ h => by cases h) digestSumMatchesReference_row_tie rfl ⟨rfl, rfl⟩ (by kernel_rfl) rfl
    (fun f fn hf hfn => by
      obtain rfl : f = 10 := Option.some.inj ((show Tryd.prog.funcNamed "aircheck/airchecklaw02.DigestSumMatchesReference" = some 10 by kernel_rfl).symm.trans hf) |>.symm
      obtain rfl : fn = Tryd.f10 := (Option.some.inj (Tryd.func10.symm.trans hfn)).symm
      exact ⟨by kernel_rfl, fun j t ht => by
        rw [Tryd.params10] at ht
        have hm : t ∈ [9, 9] := by simpa using Array.mem_of_getElem? ht
        have hall : ([9, 9].all fun u => !Tryd.prog.wantsStandIn u) = true := by kernel_rfl
        exact (show Tryd.prog.wantsStandIn t = false by simpa using List.all_eq_true.1 hall t hm)⟩)
    (by kernel_rfl)
end Go.Proofs.YtlmlimihgohchaaDoor.digestSumMatchesReference
namespace Go.Proofs.YtlmlimihgohchaaDoor
theorem digestSumMatchesReference_holds : Rows.DigestSumMatchesReferenceCardSaid := digestSumMatchesReference.card_holds
#print axioms digestSumMatchesReference_holds
end Go.Proofs.YtlmlimihgohchaaDoor
end
