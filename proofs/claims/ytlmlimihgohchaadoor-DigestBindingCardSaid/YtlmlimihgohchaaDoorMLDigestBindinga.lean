import Derived.Test.YtlmlimihgohchaaDoorYExtRound
import Derived.Test.YtlmlimihgohchaaDoorRows
import Derived.LaidMore
import Derived.Lib.LaidTab
import Derived.MakeChecks
import Derived.Test.YtlmlimihgohchaaDoorMWa
import Derived.Test.YtlmlimihgohchaaDoorMCa
import Derived.Test.YtlmlimihgohchaaDoorMEa
import Derived.Test.YtlmlimihgohchaaDoorMDa
import Derived.Test.YtlmlimihgohchaaDoorTie
import Derived.Test.YtlmlimihgohchaaDoorCards
import Derived.WalkKit
import Derived.ProofKit
import Derived.OpenShut
import Derived.ShutString
import Derived.ChangeOld
import Derived.Below
import Derived.SizedLaws
import Derived.Stop.Joined
import Derived.SevenTiedAt
import Derived.SliceStrings
/-
  The law's contract, its pure statement, its row and its card. Conditions: the row's own.
-/
section
/-
  From the row's condition on the digest's table to what the walks ask.
-/
namespace Go.Proofs.YtlmlimihgohchaaDoor.Ext
open Go.RowKit
theorem gN : Tryd.prog.globalNamed "aircheck/digest.round" = some 0 := by kernel_rfl
theorem gT : (Tryd.prog.globals[0]?).map (·.type) = some 88 := by kernel_rfl
theorem gl_of_laid {W : World} (h : laidMetH Tryd.prog [("aircheck/digest.round", Rows.laid_aircheck_digest_round)] W) : GL W := by
  rw [MakeChecks.laidMetH_plain _ _ _ (by kernel_rfl)] at h
  have hT := Lib.tabIs_of_head (zs := Sha.kk.map fun n : Nat => (n : Int)) gN gT Tryd.underlying88 Tryd.underlying69 (by kernel_rfl) (by kernel_rfl) h
  intro i hi
  have := hT.cell gN i (by simpa [Sha.kk] using hi)
  rw [this]
  congr 2
  have : i < Sha.kk.length := by simpa [Sha.kk] using hi
  simp [List.getD_eq_getElem?_getD, List.getElem?_eq_getElem this]
end Go.Proofs.YtlmlimihgohchaaDoor.Ext
end
section
/-
  Slices that came in, as lists.
-/
namespace Go.Proofs.YtlmlimihgohchaaDoor.Ext
open Go.RowKit Go.Proofs.YtlmlimihgohchaaDoorW.PrintWords
theorem ofRow_strs {w : World} {a : Option Addr} {len cap : Nat} {zs : List ByteArray} (h : (a = none ∧ len = 0 ∧ cap = 0 ∧ zs = []) ∨ ∃ x, a = some x ∧ len ≤ cap ∧ cap ≤ maxLen ∧ zs.length = cap ∧ (∀ i, i < zs.length → w.cell? (x.add i) = some (.string (zs.getD i ByteArray.empty))) ∧ ∀ n ∈ zs, n.size ≤ maxLen) :
    ∃ l : List ByteArray, len = l.length ∧ Kd.C Kd.string w a l.length l ∧ l.length ≤ maxLen ∧ (∀ x ∈ l, x.size ≤ maxLen) ∧ l.length ≤ cap := by
  rcases h with ⟨rfl, rfl, rfl, rfl⟩ | ⟨x, rfl, hl, hm, hz, hc, hw⟩
  · exact ⟨[], rfl, Kd.C_nil _ _, by simp, by simp, by simp⟩
  · have hlen : (zs.take len).length = len := by simp; omega
    refine ⟨zs.take len, hlen.symm, ?_, by omega, fun y hy => hw y (List.mem_of_mem_take hy), by omega⟩
    refine Kd.C_of_reads (d := ByteArray.empty) (h1 := fun _ => rfl) ⟨rfl, by unfold maxLen at hm; omega, fun _ => ⟨x, rfl, fun j hj => ?_⟩⟩
    rw [hc j (by omega)]
    congr 2
    rw [List.getD_eq_getElem?_getD, List.getD_eq_getElem?_getD, List.getElem?_take_of_lt (by omega)]
end Go.Proofs.YtlmlimihgohchaaDoor.Ext
end
section
-- Written by a program of this session out of the translation's print; not trusted: checked by the kernel.
namespace Go.Proofs.YtlmlimihgohchaaDoor.PD
open Go.Proofs.YtlmlimihgohchaaDoor.Ext
attribute [local go_sem] u32_signed u32_max
open Go.RowKit Go.Proofs.YtlmlimihgohchaaDoorW.PrintWords Go.Proofs.YtlmlimihgohchaaDoorW.PrintLast Go.Proofs.YtlmlimihgohchaaDoorW.PrintMore
attribute [local go_sem] max2_int min2_int max_two min_two max_three min_three max_four min_four   -- for this text's walks alone
set_option linter.unusedVariables false
set_option linter.unusedSimpArgs false
/-! ### airchecklaw02_DigestBinding: function 7 -/
def airchecklaw02_DigestBinding.j0 : Nat → Int → Int → ByteArray → List ByteArray → ByteArray → List ByteArray → Bool → Bool → Option (Bool)
 | 0, _, _, _, _, _, _, _, _ => none
 | k + 1, x1, x2, x3, x4, x5, x6, x15, x59 => if x59 = true then (some x15) else ((airchecklaw02_way.f k x1 x2 x3 x4).bind fun bt280 => ((airchecklaw02_way.f k x1 x2 x5 x6).bind fun bt284 => (if x15 = true then ((airchecklaw02_collide.f k bt280.1 bt284.1).bind fun t288 => (some t288)) else (some false))))
def airchecklaw02_DigestBinding.f (k : Nat) (a0 : ByteArray) (a1 : Int) (a2 : Int) (a3 : ByteArray) (l4 : List ByteArray) (a5 : ByteArray) (l6 : List ByteArray) : Option (Bool) := (airchecklaw02_sane.f k).bind fun t271 => ((airchecklaw02_few.f k l4 70).bind fun t272 => ((airchecklaw02_few.f k l6 70).bind fun t275 => (if 0 ≤ (mn (a3.size : Int) 60) then (if (mn (a3.size : Int) 60) ≤ (a3.size : Int) then (if 0 ≤ (mn (a5.size : Int) 60) then (if (mn (a5.size : Int) 60) ≤ (a5.size : Int) then ((digest_Verify.f a0 a1 a2 (a3.extract 0 ((mn (a3.size : Int) 60) : Int).toNat) t272).bind fun t278 => ((digest_Verify.f a0 a1 a2 (a5.extract 0 ((mn (a5.size : Int) 60) : Int).toNat) t275).bind fun t279 => (if t278 = true then (if t279 = true then (airchecklaw02_DigestBinding.j0 k a1 a2 (a3.extract 0 ((mn (a3.size : Int) 60) : Int).toNat) t272 (a5.extract 0 ((mn (a5.size : Int) 60) : Int).toNat) t275 t271 ((a3.extract 0 ((mn (a3.size : Int) 60) : Int).toNat).toList == (a5.extract 0 ((mn (a5.size : Int) 60) : Int).toNat).toList)) else (airchecklaw02_DigestBinding.j0 k a1 a2 (a3.extract 0 ((mn (a3.size : Int) 60) : Int).toNat) t272 (a5.extract 0 ((mn (a5.size : Int) 60) : Int).toNat) t275 t271 true)) else (airchecklaw02_DigestBinding.j0 k a1 a2 (a3.extract 0 ((mn (a3.size : Int) 60) : Int).toNat) t272 (a5.extract 0 ((mn (a5.size : Int) 60) : Int).toNat) t275 t271 true)))) else (none)) else (none)) else (none)) else (none))))
set_option maxHeartbeats 8000000 in
set_option maxRecDepth 100000 in
theorem airchecklaw02_DigestBinding.calls (k : Nat) (a0 : ByteArray) (a1 : Int) (a2 : Int) (a3 : ByteArray) (A4 : Option Addr) (c4 : Nat) (l4 : List ByteArray) (a5 : ByteArray) (A6 : Option Addr) (c6 : Nat) (l6 : List ByteArray) (r : Bool) (w : World) (hr4 : Kd.C Kd.string w A4 l4.length l4) (hc4 : l4.length ≤ c4) (hr6 : Kd.C Kd.string w A6 l6.length l6) (hc6 : l6.length ≤ c6) (hG : GL w) (h : airchecklaw02_DigestBinding.f k a0 a1 a2 a3 l4 a5 l6 = some r) :
  Calls Tryd.prog 7 #[.string a0, .int .i64 a1, .int .i64 a2, .string a3, .slice A4 l4.length c4, .string a5, .slice A6 l6.length c6] w fun e w' => e = .returned (.bool r) ∧ Below w.heap.size w w' := by
 have HR4 := Aside0.mk hr4
 have HC4 := Aside0.mk hc4
 clear hr4 hc4
 have HR6 := Aside0.mk hr6
 have HC6 := Aside0.mk hc6
 clear hr6 hc6
 have HB := Aside0.mk (Below.refl w.heap.size w)
 have H : ((airchecklaw02_sane.f k).bind fun t271 => ((airchecklaw02_few.f k l4 70).bind fun t272 => ((airchecklaw02_few.f k l6 70).bind fun t275 => (if 0 ≤ (mn (a3.size : Int) 60) then (if (mn (a3.size : Int) 60) ≤ (a3.size : Int) then (if 0 ≤ (mn (a5.size : Int) 60) then (if (mn (a5.size : Int) 60) ≤ (a5.size : Int) then ((digest_Verify.f a0 a1 a2 (a3.extract 0 ((mn (a3.size : Int) 60) : Int).toNat) t272).bind fun t278 => ((digest_Verify.f a0 a1 a2 (a5.extract 0 ((mn (a5.size : Int) 60) : Int).toNat) t275).bind fun t279 => (if t278 = true then (if t279 = true then (airchecklaw02_DigestBinding.j0 k a1 a2 (a3.extract 0 ((mn (a3.size : Int) 60) : Int).toNat) t272 (a5.extract 0 ((mn (a5.size : Int) 60) : Int).toNat) t275 t271 ((a3.extract 0 ((mn (a3.size : Int) 60) : Int).toNat).toList == (a5.extract 0 ((mn (a5.size : Int) 60) : Int).toNat).toList)) else (airchecklaw02_DigestBinding.j0 k a1 a2 (a3.extract 0 ((mn (a3.size : Int) 60) : Int).toNat) t272 (a5.extract 0 ((mn (a5.size : Int) 60) : Int).toNat) t275 t271 true)) else (airchecklaw02_DigestBinding.j0 k a1 a2 (a3.extract 0 ((mn (a3.size : Int) 60) : Int).toNat) t272 (a5.extract 0 ((mn (a5.size : Int) 60) : Int).toNat) t275 t271 true)))) else (none)) else (none)) else (none)) else (none))))) = some r := h
 clear h
 replace H := Option.bind_eq_some_iff.mp H
 obtain ⟨t271, A80, H⟩ := H
 replace H : ((airchecklaw02_few.f k l4 70).bind fun t272 => ((airchecklaw02_few.f k l6 70).bind fun t275 => (if 0 ≤ (mn (a3.size : Int) 60) then (if (mn (a3.size : Int) 60) ≤ (a3.size : Int) then (if 0 ≤ (mn (a5.size : Int) 60) then (if (mn (a5.size : Int) 60) ≤ (a5.size : Int) then ((digest_Verify.f a0 a1 a2 (a3.extract 0 ((mn (a3.size : Int) 60) : Int).toNat) t272).bind fun t278 => ((digest_Verify.f a0 a1 a2 (a5.extract 0 ((mn (a5.size : Int) 60) : Int).toNat) t275).bind fun t279 => (if t278 = true then (if t279 = true then (airchecklaw02_DigestBinding.j0 k a1 a2 (a3.extract 0 ((mn (a3.size : Int) 60) : Int).toNat) t272 (a5.extract 0 ((mn (a5.size : Int) 60) : Int).toNat) t275 t271 ((a3.extract 0 ((mn (a3.size : Int) 60) : Int).toNat).toList == (a5.extract 0 ((mn (a5.size : Int) 60) : Int).toNat).toList)) else (airchecklaw02_DigestBinding.j0 k a1 a2 (a3.extract 0 ((mn (a3.size : Int) 60) : Int).toNat) t272 (a5.extract 0 ((mn (a5.size : Int) 60) : Int).toNat) t275 t271 true)) else (airchecklaw02_DigestBinding.j0 k a1 a2 (a3.extract 0 ((mn (a3.size : Int) 60) : Int).toNat) t272 (a5.extract 0 ((mn (a5.size : Int) 60) : Int).toNat) t275 t271 true)))) else (none)) else (none)) else (none)) else (none)))) = some r := H
 have A8 := Aside0.mk A80
 clear A80
 replace H := Option.bind_eq_some_iff.mp H
 obtain ⟨t272, A90, H⟩ := H
 replace H : ((airchecklaw02_few.f k l6 70).bind fun t275 => (if 0 ≤ (mn (a3.size : Int) 60) then (if (mn (a3.size : Int) 60) ≤ (a3.size : Int) then (if 0 ≤ (mn (a5.size : Int) 60) then (if (mn (a5.size : Int) 60) ≤ (a5.size : Int) then ((digest_Verify.f a0 a1 a2 (a3.extract 0 ((mn (a3.size : Int) 60) : Int).toNat) t272).bind fun t278 => ((digest_Verify.f a0 a1 a2 (a5.extract 0 ((mn (a5.size : Int) 60) : Int).toNat) t275).bind fun t279 => (if t278 = true then (if t279 = true then (airchecklaw02_DigestBinding.j0 k a1 a2 (a3.extract 0 ((mn (a3.size : Int) 60) : Int).toNat) t272 (a5.extract 0 ((mn (a5.size : Int) 60) : Int).toNat) t275 t271 ((a3.extract 0 ((mn (a3.size : Int) 60) : Int).toNat).toList == (a5.extract 0 ((mn (a5.size : Int) 60) : Int).toNat).toList)) else (airchecklaw02_DigestBinding.j0 k a1 a2 (a3.extract 0 ((mn (a3.size : Int) 60) : Int).toNat) t272 (a5.extract 0 ((mn (a5.size : Int) 60) : Int).toNat) t275 t271 true)) else (airchecklaw02_DigestBinding.j0 k a1 a2 (a3.extract 0 ((mn (a3.size : Int) 60) : Int).toNat) t272 (a5.extract 0 ((mn (a5.size : Int) 60) : Int).toNat) t275 t271 true)))) else (none)) else (none)) else (none)) else (none))) = some r := H
 have A9 := Aside0.mk A90
 clear A90
 replace H := Option.bind_eq_some_iff.mp H
 obtain ⟨t275, A100, H⟩ := H
 replace H : (if 0 ≤ (mn (a3.size : Int) 60) then (if (mn (a3.size : Int) 60) ≤ (a3.size : Int) then (if 0 ≤ (mn (a5.size : Int) 60) then (if (mn (a5.size : Int) 60) ≤ (a5.size : Int) then ((digest_Verify.f a0 a1 a2 (a3.extract 0 ((mn (a3.size : Int) 60) : Int).toNat) t272).bind fun t278 => ((digest_Verify.f a0 a1 a2 (a5.extract 0 ((mn (a5.size : Int) 60) : Int).toNat) t275).bind fun t279 => (if t278 = true then (if t279 = true then (airchecklaw02_DigestBinding.j0 k a1 a2 (a3.extract 0 ((mn (a3.size : Int) 60) : Int).toNat) t272 (a5.extract 0 ((mn (a5.size : Int) 60) : Int).toNat) t275 t271 ((a3.extract 0 ((mn (a3.size : Int) 60) : Int).toNat).toList == (a5.extract 0 ((mn (a5.size : Int) 60) : Int).toNat).toList)) else (airchecklaw02_DigestBinding.j0 k a1 a2 (a3.extract 0 ((mn (a3.size : Int) 60) : Int).toNat) t272 (a5.extract 0 ((mn (a5.size : Int) 60) : Int).toNat) t275 t271 true)) else (airchecklaw02_DigestBinding.j0 k a1 a2 (a3.extract 0 ((mn (a3.size : Int) 60) : Int).toNat) t272 (a5.extract 0 ((mn (a5.size : Int) 60) : Int).toNat) t275 t271 true)))) else (none)) else (none)) else (none)) else (none)) = some r := H
 have A10 := Aside0.mk A100
 clear A100
 obtain ⟨ji11, hji11⟩ : ∃ j_ : Int, (mn (a3.size : Int) 60) = j_ := ⟨_, rfl⟩
 replace H : (if 0 ≤ (ji11) then (if (ji11) ≤ (a3.size : Int) then (if 0 ≤ (mn (a5.size : Int) 60) then (if (mn (a5.size : Int) 60) ≤ (a5.size : Int) then ((digest_Verify.f a0 a1 a2 (a3.extract 0 ((ji11) : Int).toNat) t272).bind fun t278 => ((digest_Verify.f a0 a1 a2 (a5.extract 0 ((mn (a5.size : Int) 60) : Int).toNat) t275).bind fun t279 => (if t278 = true then (if t279 = true then (airchecklaw02_DigestBinding.j0 k a1 a2 (a3.extract 0 ((ji11) : Int).toNat) t272 (a5.extract 0 ((mn (a5.size : Int) 60) : Int).toNat) t275 t271 ((a3.extract 0 ((ji11) : Int).toNat).toList == (a5.extract 0 ((mn (a5.size : Int) 60) : Int).toNat).toList)) else (airchecklaw02_DigestBinding.j0 k a1 a2 (a3.extract 0 ((ji11) : Int).toNat) t272 (a5.extract 0 ((mn (a5.size : Int) 60) : Int).toNat) t275 t271 true)) else (airchecklaw02_DigestBinding.j0 k a1 a2 (a3.extract 0 ((ji11) : Int).toNat) t272 (a5.extract 0 ((mn (a5.size : Int) 60) : Int).toNat) t275 t271 true)))) else (none)) else (none)) else (none)) else (none)) = some r := by first | (rw [hji11] at H; exact H) | (simp only [hji11] at H ⊢; exact H)
 (try rw [hji11] at A8)
 (try rw [hji11] at A9)
 (try rw [hji11] at A10)
 (try (have hji11h : ji11 ≤ 60 := by (rw [← hji11]; unfold mn; (repeat' split) <;> omega)))
 (try (have hji11g : ji11 ≤ 64 := by omega))
 (try (have hji11l : 0 ≤ ji11 := by (rw [← hji11]; unfold mn; (repeat' split) <;> omega)))
 (try (have hji11m : 0 ≤ ji11 := by omega))
 have hji11_ : (if 60 < (a3.size : Int) then 60 else (a3.size : Int)) = ji11 := hji11
 by_cases c12 : 0 ≤ (ji11)
 ·rw [if_pos c12] at H
  have c12b0 := eq_true c12
  have c12b1 : decide (0 ≤ (ji11)) = true := decide_eq_true c12
  clear c12
  by_cases c13 : (ji11) ≤ (a3.size : Int)
  ·rw [if_pos c13] at H
   have c13b0 := eq_true c13
   have c13b1 : decide ((ji11) ≤ (a3.size : Int)) = true := decide_eq_true c13
   clear c13
   obtain ⟨js14, hjs14⟩ : ∃ s_ : ByteArray, (a3.extract 0 ((ji11) : Int).toNat) = s_ := ⟨_, rfl⟩
   replace H : (if 0 ≤ (mn (a5.size : Int) 60) then (if (mn (a5.size : Int) 60) ≤ (a5.size : Int) then ((digest_Verify.f a0 a1 a2 js14 t272).bind fun t278 => ((digest_Verify.f a0 a1 a2 (a5.extract 0 ((mn (a5.size : Int) 60) : Int).toNat) t275).bind fun t279 => (if t278 = true then (if t279 = true then (airchecklaw02_DigestBinding.j0 k a1 a2 js14 t272 (a5.extract 0 ((mn (a5.size : Int) 60) : Int).toNat) t275 t271 (js14.toList == (a5.extract 0 ((mn (a5.size : Int) 60) : Int).toNat).toList)) else (airchecklaw02_DigestBinding.j0 k a1 a2 js14 t272 (a5.extract 0 ((mn (a5.size : Int) 60) : Int).toNat) t275 t271 true)) else (airchecklaw02_DigestBinding.j0 k a1 a2 js14 t272 (a5.extract 0 ((mn (a5.size : Int) 60) : Int).toNat) t275 t271 true)))) else (none)) else (none)) = some r := by first | (rw [hjs14] at H; exact H) | (simp only [hjs14] at H ⊢; exact H) | exact H
   obtain ⟨ji15, hji15⟩ : ∃ j_ : Int, (mn (a5.size : Int) 60) = j_ := ⟨_, rfl⟩
   replace H : (if 0 ≤ (ji15) then (if (ji15) ≤ (a5.size : Int) then ((digest_Verify.f a0 a1 a2 js14 t272).bind fun t278 => ((digest_Verify.f a0 a1 a2 (a5.extract 0 ((ji15) : Int).toNat) t275).bind fun t279 => (if t278 = true then (if t279 = true then (airchecklaw02_DigestBinding.j0 k a1 a2 js14 t272 (a5.extract 0 ((ji15) : Int).toNat) t275 t271 (js14.toList == (a5.extract 0 ((ji15) : Int).toNat).toList)) else (airchecklaw02_DigestBinding.j0 k a1 a2 js14 t272 (a5.extract 0 ((ji15) : Int).toNat) t275 t271 true)) else (airchecklaw02_DigestBinding.j0 k a1 a2 js14 t272 (a5.extract 0 ((ji15) : Int).toNat) t275 t271 true)))) else (none)) else (none)) = some r := by first | (rw [hji15] at H; exact H) | (simp only [hji15] at H ⊢; exact H)
   (try rw [hji15] at A8)
   (try rw [hji15] at A9)
   (try rw [hji15] at A10)
   (try (have hji15h : ji15 ≤ 60 := by (rw [← hji15]; unfold mn; (repeat' split) <;> omega)))
   (try (have hji15g : ji15 ≤ 64 := by omega))
   (try (have hji15l : 0 ≤ ji15 := by (rw [← hji15]; unfold mn; (repeat' split) <;> omega)))
   (try (have hji15m : 0 ≤ ji15 := by omega))
   have hji15_ : (if 60 < (a5.size : Int) then 60 else (a5.size : Int)) = ji15 := hji15
   by_cases c16 : 0 ≤ (ji15)
   ·rw [if_pos c16] at H
    have c16b0 := eq_true c16
    have c16b1 : decide (0 ≤ (ji15)) = true := decide_eq_true c16
    clear c16
    by_cases c17 : (ji15) ≤ (a5.size : Int)
    ·rw [if_pos c17] at H
     have c17b0 := eq_true c17
     have c17b1 : decide ((ji15) ≤ (a5.size : Int)) = true := decide_eq_true c17
     clear c17
     obtain ⟨js18, hjs18⟩ : ∃ s_ : ByteArray, (a5.extract 0 ((ji15) : Int).toNat) = s_ := ⟨_, rfl⟩
     replace H : ((digest_Verify.f a0 a1 a2 js14 t272).bind fun t278 => ((digest_Verify.f a0 a1 a2 js18 t275).bind fun t279 => (if t278 = true then (if t279 = true then (airchecklaw02_DigestBinding.j0 k a1 a2 js14 t272 js18 t275 t271 (js14.toList == js18.toList)) else (airchecklaw02_DigestBinding.j0 k a1 a2 js14 t272 js18 t275 t271 true)) else (airchecklaw02_DigestBinding.j0 k a1 a2 js14 t272 js18 t275 t271 true)))) = some r := by first | (rw [hjs18] at H; exact H) | (simp only [hjs18] at H ⊢; exact H) | exact H
     replace H := Option.bind_eq_some_iff.mp H
     obtain ⟨t278, A190, H⟩ := H
     replace H : ((digest_Verify.f a0 a1 a2 js18 t275).bind fun t279 => (if t278 = true then (if t279 = true then (airchecklaw02_DigestBinding.j0 k a1 a2 js14 t272 js18 t275 t271 (js14.toList == js18.toList)) else (airchecklaw02_DigestBinding.j0 k a1 a2 js14 t272 js18 t275 t271 true)) else (airchecklaw02_DigestBinding.j0 k a1 a2 js14 t272 js18 t275 t271 true))) = some r := H
     have A19 := Aside0.mk A190
     clear A190
     replace H := Option.bind_eq_some_iff.mp H
     obtain ⟨t279, A200, H⟩ := H
     replace H : (if t278 = true then (if t279 = true then (airchecklaw02_DigestBinding.j0 k a1 a2 js14 t272 js18 t275 t271 (js14.toList == js18.toList)) else (airchecklaw02_DigestBinding.j0 k a1 a2 js14 t272 js18 t275 t271 true)) else (airchecklaw02_DigestBinding.j0 k a1 a2 js14 t272 js18 t275 t271 true)) = some r := H
     have A20 := Aside0.mk A200
     clear A200
     have HC21 := Aside0.mk H
     clear H
     go_enter Tryd.func7, Tryd.ntmps7
     go_upto_region 8 with (first | ((with_reducible refine gate_callee (f := 12) rfl ?_); refine goesL_ (some 22) rfl rfl Tryd.func12 (by kernel_rfl) rfl #[] rfl (by (try simp only [List.map_toArray, List.map_cons, List.map_nil]); first | done | rfl | (simp only [List.length_drop, List.length_take]; rfl)) ?_; (with_reducible refine (airchecklaw02_sane.calls k  t271 _ ?side1 A8.out).mono ?_); (case side1 => first | exact hG | exact GL.below hG (by repeat (first | (with_reducible first | exact HB.out | apply below_alloc | apply pw_below_drewN | apply below_drew1) | exact HB.out))); rintro e w22 ⟨rfl, hb⟩; refine ⟨_, rfl, ?_⟩; have n0_ := Aside0.mk (below_step (by repeat (first | (with_reducible first | exact HB.out | apply below_alloc | apply pw_below_drewN | apply below_drew1) | exact HB.out)) hb); clear HB; have HB := n0_; clear n0_; (try clear hb); (try clear hb2); (try clear hk); (try clear hi)) | ((with_reducible refine gate_callee (f := 13) rfl ?_); refine goesL_ (some 24) rfl rfl Tryd.func13 (by kernel_rfl) rfl #[.slice A4 l4.length c4, .int .i64 70] rfl (by (try simp only [List.map_toArray, List.map_cons, List.map_nil]); first | done | rfl | (simp only [List.length_drop, List.length_take]; rfl)) ?_; (with_reducible refine (airchecklaw02_few.calls k _ _ l4 70 t272 _ ?side1 ?side2 A9.out).mono ?_); (case side1 => repeat (first | exact (Kd.C_below HR4.out HB.out) | (with_reducible refine Kd.C_alloc ?_ _) | (with_reducible refine Kd.C_drewN ?_ _) | (with_reducible refine Kd.C_drew ?_))); (case side2 => exact HC4.out); rintro e w23 ⟨v273, rfl, ho0, hb⟩; refine ⟨_, rfl, ?_⟩; have n0_ := Aside0.mk (Kd.R_lower ho0 (below_size (by repeat (first | (with_reducible first | exact HB.out | apply below_alloc | apply pw_below_drewN | apply below_drew1) | exact HB.out)))); have n1_ := Aside0.mk (below_step (by repeat (first | (with_reducible first | exact HB.out | apply below_alloc | apply pw_below_drewN | apply below_drew1) | exact HB.out)) hb); clear HB; have HO274 := n0_; have HB := n1_; clear n0_ n1_; (try clear hb); (try clear hb2); (try clear hk); (try clear hi); (try clear ho0)) | ((with_reducible refine gate_callee (f := 13) rfl ?_); refine goesL_ (some 26) rfl rfl Tryd.func13 (by kernel_rfl) rfl #[.slice A6 l6.length c6, .int .i64 70] rfl (by (try simp only [List.map_toArray, List.map_cons, List.map_nil]); first | done | rfl | (simp only [List.length_drop, List.length_take]; rfl)) ?_; (with_reducible refine (airchecklaw02_few.calls k _ _ l6 70 t275 _ ?side1 ?side2 A10.out).mono ?_); (case side1 => repeat (first | exact (Kd.C_below HR6.out HB.out) | (with_reducible refine Kd.C_alloc ?_ _) | (with_reducible refine Kd.C_drewN ?_ _) | (with_reducible refine Kd.C_drew ?_))); (case side2 => exact HC6.out); rintro e w24 ⟨v276, rfl, ho0, hb⟩; refine ⟨_, rfl, ?_⟩; have n0_ := Aside0.mk (Kd.R_elder' (by (with_reducible repeat (first | apply Kd.R_alloc | apply Kd.R_drewN | apply Kd.R_drew)); exact HO274.out) (Kd.R_base ho0) hb); have n1_ := Aside0.mk (Kd.R_lower (Kd.R_new' ho0 (Kd.R_lt (by (with_reducible repeat (first | apply Kd.R_alloc | apply Kd.R_drewN | apply Kd.R_drew)); exact HO274.out))) (below_size (by repeat (first | (with_reducible first | exact HB.out | apply below_alloc | apply pw_below_drewN | apply below_drew1) | exact HB.out)))); have n2_ := Aside0.mk (below_step (by repeat (first | (with_reducible first | exact HB.out | apply below_alloc | apply pw_below_drewN | apply below_drew1) | exact HB.out)) hb); clear HO274; clear HB; have HO274 := n0_; have HO277 := n1_; have HB := n2_; clear n0_ n1_ n2_; (try clear hb); (try clear hb2); (try clear hk); (try clear hi); (try clear ho0); obtain ⟨Ao25, co25, eo25⟩ := Kd.R_slice HO274.out; subst eo25) | ((with_reducible refine gate_callee (f := 21) rfl ?_); refine goesL_ (some 42) rfl rfl Tryd.func21 (by kernel_rfl) rfl #[.string a0, .int .i64 a1, .int .i64 a2, .string js14, .slice Ao25 t272.length co25] rfl (by (try simp only [List.map_toArray, List.map_cons, List.map_nil]); first | done | rfl | (simp only [List.length_drop, List.length_take]; rfl)) ?_; (with_reducible refine (digest_Verify.calls a0 a1 a2 js14 _ _ t272 t278 _ ?side1 ?side2 ?side3 A19.out).mono ?_); (case side1 => repeat (first | exact (Kd.R_reads' HO274.out).2.2 | (with_reducible refine Kd.C_alloc ?_ _) | (with_reducible refine Kd.C_drewN ?_ _) | (with_reducible refine Kd.C_drew ?_))); (case side2 => exact (Kd.R_reads' HO274.out).2.1); (case side3 => first | exact hG | exact GL.below hG (by repeat (first | (with_reducible first | exact HB.out | apply below_alloc | apply pw_below_drewN | apply below_drew1) | exact HB.out))); rintro e w26 ⟨rfl, hb⟩; refine ⟨_, rfl, ?_⟩; have n0_ := Aside0.mk (Kd.R_below (by (with_reducible repeat (first | apply Kd.R_alloc | apply Kd.R_drewN | apply Kd.R_drew)); exact HO274.out) hb); have n1_ := Aside0.mk (Kd.R_below (by (with_reducible repeat (first | apply Kd.R_alloc | apply Kd.R_drewN | apply Kd.R_drew)); exact HO277.out) hb); have n2_ := Aside0.mk (below_step (by repeat (first | (with_reducible first | exact HB.out | apply below_alloc | apply pw_below_drewN | apply below_drew1) | exact HB.out)) hb); clear HO274; clear HO277; clear HB; have HO274 := n0_; have HO277 := n1_; have HB := n2_; clear n0_ n1_ n2_; (try clear hb); (try clear hb2); (try clear hk); (try clear hi); obtain ⟨Ao27, co27, eo27⟩ := Kd.R_slice HO277.out; subst eo27) | ((with_reducible refine gate_callee (f := 21) rfl ?_); refine goesL_ (some 48) rfl rfl Tryd.func21 (by kernel_rfl) rfl #[.string a0, .int .i64 a1, .int .i64 a2, .string js18, .slice Ao27 t275.length co27] rfl (by (try simp only [List.map_toArray, List.map_cons, List.map_nil]); first | done | rfl | (simp only [List.length_drop, List.length_take]; rfl)) ?_; (with_reducible refine (digest_Verify.calls a0 a1 a2 js18 _ _ t275 t279 _ ?side1 ?side2 ?side3 A20.out).mono ?_); (case side1 => repeat (first | exact (Kd.R_reads' HO277.out).2.2 | (with_reducible refine Kd.C_alloc ?_ _) | (with_reducible refine Kd.C_drewN ?_ _) | (with_reducible refine Kd.C_drew ?_))); (case side2 => exact (Kd.R_reads' HO277.out).2.1); (case side3 => first | exact hG | exact GL.below hG (by repeat (first | (with_reducible first | exact HB.out | apply below_alloc | apply pw_below_drewN | apply below_drew1) | exact HB.out))); rintro e w28 ⟨rfl, hb⟩; refine ⟨_, rfl, ?_⟩; have n0_ := Aside0.mk (Kd.R_below (by (with_reducible repeat (first | apply Kd.R_alloc | apply Kd.R_drewN | apply Kd.R_drew)); exact HO274.out) hb); have n1_ := Aside0.mk (Kd.R_below (by (with_reducible repeat (first | apply Kd.R_alloc | apply Kd.R_drewN | apply Kd.R_drew)); exact HO277.out) hb); have n2_ := Aside0.mk (below_step (by repeat (first | (with_reducible first | exact HB.out | apply below_alloc | apply pw_below_drewN | apply below_drew1) | exact HB.out)) hb); clear HO274; clear HO277; clear HB; have HO274 := n0_; have HO277 := n1_; have HB := n2_; clear n0_ n1_ n2_; (try clear hb); (try clear hb2); (try clear hk); (try clear hi)))
     (try simp only [Act.put, List.setIfInBounds_toArray, List.set_cons_zero, List.set_cons_succ])
     go_cut [59] (fun v59 wc => ∃ (kq : Nat) (x59_20 : Bool), v59 = .bool x59_20 ∧ Aside0 (airchecklaw02_DigestBinding.j0 kq a1 a2 js14 t272 js18 t275 t271 x59_20 = some r) ∧ Aside0 (kq ≤ k) ∧ Aside0 (Kd.R Kd.string 9 wc w.heap.size (fun k_ => some k_ ≠ ((.slice Ao27 t275.length co27) : Value).ownBlock) (.slice Ao25 t272.length co25) t272) ∧ Aside0 (Kd.R Kd.string 9 wc w.heap.size (fun k_ => some k_ ≠ ((.slice Ao25 t272.length co25) : Value).ownBlock) (.slice Ao27 t275.length co27) t275) ∧ Aside0 (Below w.heap.size w wc))
     case first =>
      have H := HC21.out
      clear HC21
      by_cases c29 : t278 = true
      ·subst c29
       have H1 : (if t279 = true then (airchecklaw02_DigestBinding.j0 k a1 a2 js14 t272 js18 t275 t271 (js14.toList == js18.toList)) else (airchecklaw02_DigestBinding.j0 k a1 a2 js14 t272 js18 t275 t271 true)) = some r := by rw [if_pos rfl] at H; exact H
       clear H
       have H := H1
       clear H1
       by_cases c30 : t279 = true
       ·subst c30
        have H1 : (airchecklaw02_DigestBinding.j0 k a1 a2 js14 t272 js18 t275 t271 (js14.toList == js18.toList)) = some r := by rw [if_pos rfl] at H; exact H
        clear H
        have H := H1
        clear H1
        have H' := Aside0.mk H
        clear H
        go_wp2
        go_meet
        case rel => exact ⟨_, ((js14.toList == js18.toList)), (by first | rfl | (simp; done) | (simp only [← hjs14, ← hjs18] <;> (first | rfl | simp)) | (simp [*]; done)), H', ⟨by first | omega | exact Nat.le_refl _⟩, ⟨by (with_reducible repeat (first | apply Kd.R_alloc | apply Kd.R_drewN | apply Kd.R_drew)); exact Kd.R_mono HO274.out (fun _ hk => hk.2)⟩, ⟨by (with_reducible repeat (first | apply Kd.R_alloc | apply Kd.R_drewN | apply Kd.R_drew)); exact Kd.R_mono HO277.out (fun _ hk => hk.2)⟩, ⟨by repeat (first | (with_reducible first | exact HB.out | apply below_alloc | apply pw_below_drewN | apply below_drew1) | exact HB.out)⟩⟩
       ·replace c30 := Bool.eq_false_iff.mpr c30
        subst c30
        have H1 : (airchecklaw02_DigestBinding.j0 k a1 a2 js14 t272 js18 t275 t271 true) = some r := by rw [if_neg (show ¬ (false = true) by decide)] at H; exact H
        clear H
        have H := H1
        clear H1
        have H' := Aside0.mk H
        clear H
        go_wp2
        go_meet
        case rel => exact ⟨_, (true), (by first | rfl | (simp; done) | (simp [*]; done)), H', ⟨by first | omega | exact Nat.le_refl _⟩, ⟨by (with_reducible repeat (first | apply Kd.R_alloc | apply Kd.R_drewN | apply Kd.R_drew)); exact Kd.R_mono HO274.out (fun _ hk => hk.2)⟩, ⟨by (with_reducible repeat (first | apply Kd.R_alloc | apply Kd.R_drewN | apply Kd.R_drew)); exact Kd.R_mono HO277.out (fun _ hk => hk.2)⟩, ⟨by repeat (first | (with_reducible first | exact HB.out | apply below_alloc | apply pw_below_drewN | apply below_drew1) | exact HB.out)⟩⟩
      ·replace c29 := Bool.eq_false_iff.mpr c29
       subst c29
       have H1 : (airchecklaw02_DigestBinding.j0 k a1 a2 js14 t272 js18 t275 t271 true) = some r := by rw [if_neg (show ¬ (false = true) by decide)] at H; exact H
       clear H
       have H := H1
       clear H1
       have H' := Aside0.mk H
       clear H
       go_wp2
       go_meet
       case rel => exact ⟨_, (true), (by first | rfl | (simp; done) | (simp [*]; done)), H', ⟨by first | omega | exact Nat.le_refl _⟩, ⟨by (with_reducible repeat (first | apply Kd.R_alloc | apply Kd.R_drewN | apply Kd.R_drew)); exact Kd.R_mono HO274.out (fun _ hk => hk.2)⟩, ⟨by (with_reducible repeat (first | apply Kd.R_alloc | apply Kd.R_drewN | apply Kd.R_drew)); exact Kd.R_mono HO277.out (fun _ hk => hk.2)⟩, ⟨by repeat (first | (with_reducible first | exact HB.out | apply below_alloc | apply pw_below_drewN | apply below_drew1) | exact HB.out)⟩⟩
     case rest =>
      clear HC21
      try clear c1
      try clear c2
      try clear p2
      try clear c3
      try clear c4
      try clear c6
      try clear c7
      try clear c12
      try clear c12b0
      try clear c12b1
      try clear c13
      try clear c13b0
      try clear c13b1
      try clear c16
      try clear c16b0
      try clear c16b1
      try clear c17
      try clear c17b0
      try clear c17b1
      try clear c21
      try clear c29
      try clear c30
      obtain ⟨kq, x59_20, rfl, HA, HJ20, HO_4, HO_6, HB⟩ := hcut
      cases kq with
      | zero => exact absurd HA.out (by simp [airchecklaw02_DigestBinding.j0])
      | succ kj20 =>
       have H := HA.out
       clear HA
       simp only [airchecklaw02_DigestBinding.j0] at H
       by_cases c31 : x59_20 = true
       ·subst c31
        have H1 : (some t271) = some r := by rw [if_pos rfl] at H; exact H
        clear H
        have H := H1
        clear H1
        obtain rfl := Option.some.inj H
        go_wp2
        go_ret
        exact ⟨by first | rfl | (simp [errW_none, errW_some] <;> rfl) | (simp only [← hji11, ← hjs14, ← hji15, ← hjs18]; first | rfl | (simp [errW_none, errW_some] <;> rfl)) | (simp [*, errW_none, errW_some] <;> rfl), by repeat (first | (with_reducible first | exact HB.out | apply below_alloc | apply pw_below_drewN | apply below_drew1) | exact HB.out)⟩
       ·replace c31 := Bool.eq_false_iff.mpr c31
        subst c31
        have H1 : ((airchecklaw02_way.f kj20 a1 a2 js14 t272).bind fun bt280 => ((airchecklaw02_way.f kj20 a1 a2 js18 t275).bind fun bt284 => (if t271 = true then ((airchecklaw02_collide.f kj20 bt280.1 bt284.1).bind fun t288 => (some t288)) else (some false)))) = some r := by rw [if_neg (show ¬ (false = true) by decide)] at H; exact H
        clear H
        have H := H1
        clear H1
        replace H := Option.bind_eq_some_iff.mp H
        obtain ⟨⟨t280, t281⟩, A320, H⟩ := H
        replace H : ((airchecklaw02_way.f kj20 a1 a2 js18 t275).bind fun bt284 => (if t271 = true then ((airchecklaw02_collide.f kj20 t280 bt284.1).bind fun t288 => (some t288)) else (some false))) = some r := H
        have A32 := Aside0.mk A320
        clear A320
        replace H := Option.bind_eq_some_iff.mp H
        obtain ⟨⟨t284, t285⟩, A330, H⟩ := H
        replace H : (if t271 = true then ((airchecklaw02_collide.f kj20 t280 t284).bind fun t288 => (some t288)) else (some false)) = some r := H
        have A33 := Aside0.mk A330
        clear A330
        by_cases c34 : t271 = true
        ·subst c34
         have H1 : ((airchecklaw02_collide.f kj20 t280 t284).bind fun t288 => (some t288)) = some r := by rw [if_pos rfl] at H; exact H
         clear H
         have H := H1
         clear H1
         replace H := Option.bind_eq_some_iff.mp H
         obtain ⟨t288, A350, H⟩ := H
         replace H : (some t288) = some r := H
         have A35 := Aside0.mk A350
         clear A350
         obtain rfl := Option.some.inj H
         go_wp2_with (first | ((with_reducible refine gate_callee (f := 26) rfl ?_); refine goesL_ (some 66) rfl rfl Tryd.func26 (by kernel_rfl) rfl #[.int .i64 a1, .int .i64 a2, .string js14, .slice Ao25 t272.length co25] rfl (by (try simp only [List.map_toArray, List.map_cons, List.map_nil]); first | done | rfl | (simp only [List.length_drop, List.length_take]; rfl)) ?_; (with_reducible refine (airchecklaw02_way.calls kj20 a1 a2 js14 _ _ t272 t280 t281 _ ?side1 ?side2 ?side3 A32.out).mono ?_); (case side1 => repeat (first | exact (Kd.R_reads' HO_4.out).2.2 | (with_reducible refine Kd.C_alloc ?_ _) | (with_reducible refine Kd.C_drewN ?_ _) | (with_reducible refine Kd.C_drew ?_))); (case side2 => exact (Kd.R_reads' HO_4.out).2.1); (case side3 => first | exact hG | exact GL.below hG (by repeat (first | (with_reducible first | exact HB.out | apply below_alloc | apply pw_below_drewN | apply below_drew1) | exact HB.out))); rintro e w36 ⟨v282, rfl, ho0, hb⟩; refine ⟨_, rfl, ?_⟩; have n0_ := Aside0.mk (Kd.R_elder' (by (with_reducible repeat (first | apply Kd.R_alloc | apply Kd.R_drewN | apply Kd.R_drew)); exact HO_4.out) (Kd.R_base ho0) hb); have n1_ := Aside0.mk (Kd.R_elder' (by (with_reducible repeat (first | apply Kd.R_alloc | apply Kd.R_drewN | apply Kd.R_drew)); exact HO_6.out) (Kd.R_base ho0) hb); have n2_ := Aside0.mk (Kd.R_lower (Kd.R_new' (Kd.R_new' ho0 (Kd.R_lt (by (with_reducible repeat (first | apply Kd.R_alloc | apply Kd.R_drewN | apply Kd.R_drew)); exact HO_4.out))) (Kd.R_lt (by (with_reducible repeat (first | apply Kd.R_alloc | apply Kd.R_drewN | apply Kd.R_drew)); exact HO_6.out))) (below_size (by repeat (first | (with_reducible first | exact HB.out | apply below_alloc | apply pw_below_drewN | apply below_drew1) | exact HB.out)))); have n3_ := Aside0.mk (below_step (by repeat (first | (with_reducible first | exact HB.out | apply below_alloc | apply pw_below_drewN | apply below_drew1) | exact HB.out)) hb); clear HO_4; clear HO_6; clear HB; have HO_4 := n0_; have HO_6 := n1_; have HO283 := n2_; have HB := n3_; clear n0_ n1_ n2_ n3_; (try clear hb); (try clear hb2); (try clear hk); (try clear hi); (try clear ho0)) | ((with_reducible refine gate_callee (f := 26) rfl ?_); refine goesL_ (some 74) rfl rfl Tryd.func26 (by kernel_rfl) rfl #[.int .i64 a1, .int .i64 a2, .string js18, .slice Ao27 t275.length co27] rfl (by (try simp only [List.map_toArray, List.map_cons, List.map_nil]); first | done | rfl | (simp only [List.length_drop, List.length_take]; rfl)) ?_; (with_reducible refine (airchecklaw02_way.calls kj20 a1 a2 js18 _ _ t275 t284 t285 _ ?side1 ?side2 ?side3 A33.out).mono ?_); (case side1 => repeat (first | exact (Kd.R_reads' HO_6.out).2.2 | (with_reducible refine Kd.C_alloc ?_ _) | (with_reducible refine Kd.C_drewN ?_ _) | (with_reducible refine Kd.C_drew ?_))); (case side2 => exact (Kd.R_reads' HO_6.out).2.1); (case side3 => first | exact hG | exact GL.below hG (by repeat (first | (with_reducible first | exact HB.out | apply below_alloc | apply pw_below_drewN | apply below_drew1) | exact HB.out))); rintro e w37 ⟨v286, rfl, ho0, hb⟩; refine ⟨_, rfl, ?_⟩; have n0_ := Aside0.mk (Kd.R_elder' (by (with_reducible repeat (first | apply Kd.R_alloc | apply Kd.R_drewN | apply Kd.R_drew)); exact HO_4.out) (Kd.R_base ho0) hb); have n1_ := Aside0.mk (Kd.R_elder' (by (with_reducible repeat (first | apply Kd.R_alloc | apply Kd.R_drewN | apply Kd.R_drew)); exact HO_6.out) (Kd.R_base ho0) hb); have n2_ := Aside0.mk (Kd.R_elder' (by (with_reducible repeat (first | apply Kd.R_alloc | apply Kd.R_drewN | apply Kd.R_drew)); exact HO283.out) (Kd.R_base ho0) hb); have n3_ := Aside0.mk (Kd.R_lower (Kd.R_new' (Kd.R_new' (Kd.R_new' ho0 (Kd.R_lt (by (with_reducible repeat (first | apply Kd.R_alloc | apply Kd.R_drewN | apply Kd.R_drew)); exact HO_4.out))) (Kd.R_lt (by (with_reducible repeat (first | apply Kd.R_alloc | apply Kd.R_drewN | apply Kd.R_drew)); exact HO_6.out))) (Kd.R_lt (by (with_reducible repeat (first | apply Kd.R_alloc | apply Kd.R_drewN | apply Kd.R_drew)); exact HO283.out))) (below_size (by repeat (first | (with_reducible first | exact HB.out | apply below_alloc | apply pw_below_drewN | apply below_drew1) | exact HB.out)))); have n4_ := Aside0.mk (below_step (by repeat (first | (with_reducible first | exact HB.out | apply below_alloc | apply pw_below_drewN | apply below_drew1) | exact HB.out)) hb); clear HO_4; clear HO_6; clear HO283; clear HB; have HO_4 := n0_; have HO_6 := n1_; have HO283 := n2_; have HO287 := n3_; have HB := n4_; clear n0_ n1_ n2_ n3_ n4_; (try clear hb); (try clear hb2); (try clear hk); (try clear hi); (try clear ho0); obtain ⟨Ao38, co38, eo38⟩ := Kd.R_slice HO283.out; subst eo38; obtain ⟨Ao39, co39, eo39⟩ := Kd.R_slice HO287.out; subst eo39) | (go_at_call 27; (with_reducible refine (airchecklaw02_collide.calls kj20 _ _ t280 _ _ t284 t288 _ ?side1 ?side2 ?side3 ?side4 ?side5 A35.out).mono ?_); (case side1 => repeat (first | exact (Kd.R_reads' HO283.out).2.2 | (with_reducible refine Kd.C_alloc ?_ _) | (with_reducible refine Kd.C_drewN ?_ _) | (with_reducible refine Kd.C_drew ?_))); (case side2 => exact (Kd.R_reads' HO283.out).2.1); (case side3 => repeat (first | exact (Kd.R_reads' HO287.out).2.2 | (with_reducible refine Kd.C_alloc ?_ _) | (with_reducible refine Kd.C_drewN ?_ _) | (with_reducible refine Kd.C_drew ?_))); (case side4 => exact (Kd.R_reads' HO287.out).2.1); (case side5 => first | exact hG | exact GL.below hG (by repeat (first | (with_reducible first | exact HB.out | apply below_alloc | apply pw_below_drewN | apply below_drew1) | exact HB.out))); rintro e w40 ⟨rfl, hb⟩; have n0_ := Aside0.mk (Kd.R_below (by (with_reducible repeat (first | apply Kd.R_alloc | apply Kd.R_drewN | apply Kd.R_drew)); exact HO_4.out) hb); have n1_ := Aside0.mk (Kd.R_below (by (with_reducible repeat (first | apply Kd.R_alloc | apply Kd.R_drewN | apply Kd.R_drew)); exact HO_6.out) hb); have n2_ := Aside0.mk (Kd.R_below (by (with_reducible repeat (first | apply Kd.R_alloc | apply Kd.R_drewN | apply Kd.R_drew)); exact HO283.out) hb); have n3_ := Aside0.mk (Kd.R_below (by (with_reducible repeat (first | apply Kd.R_alloc | apply Kd.R_drewN | apply Kd.R_drew)); exact HO287.out) hb); have n4_ := Aside0.mk (below_step (by repeat (first | (with_reducible first | exact HB.out | apply below_alloc | apply pw_below_drewN | apply below_drew1) | exact HB.out)) hb); clear HO_4; clear HO_6; clear HO283; clear HO287; clear HB; have HO_4 := n0_; have HO_6 := n1_; have HO283 := n2_; have HO287 := n3_; have HB := n4_; clear n0_ n1_ n2_ n3_ n4_; (try clear hb); (try clear hb2); (try clear hk); (try clear hi)))
         go_ret
         exact ⟨by first | rfl | (simp [errW_none, errW_some] <;> rfl) | (simp only [← hji11, ← hjs14, ← hji15, ← hjs18]; first | rfl | (simp [errW_none, errW_some] <;> rfl)) | (simp [*, errW_none, errW_some] <;> rfl), by repeat (first | (with_reducible first | exact HB.out | apply below_alloc | apply pw_below_drewN | apply below_drew1) | exact HB.out)⟩
        ·replace c34 := Bool.eq_false_iff.mpr c34
         subst c34
         have H1 : (some false) = some r := by rw [if_neg (show ¬ (false = true) by decide)] at H; exact H
         clear H
         have H := H1
         clear H1
         obtain rfl := Option.some.inj H
         go_wp2_with (first | ((with_reducible refine gate_callee (f := 26) rfl ?_); refine goesL_ (some 66) rfl rfl Tryd.func26 (by kernel_rfl) rfl #[.int .i64 a1, .int .i64 a2, .string js14, .slice Ao25 t272.length co25] rfl (by (try simp only [List.map_toArray, List.map_cons, List.map_nil]); first | done | rfl | (simp only [List.length_drop, List.length_take]; rfl)) ?_; (with_reducible refine (airchecklaw02_way.calls kj20 a1 a2 js14 _ _ t272 t280 t281 _ ?side1 ?side2 ?side3 A32.out).mono ?_); (case side1 => repeat (first | exact (Kd.R_reads' HO_4.out).2.2 | (with_reducible refine Kd.C_alloc ?_ _) | (with_reducible refine Kd.C_drewN ?_ _) | (with_reducible refine Kd.C_drew ?_))); (case side2 => exact (Kd.R_reads' HO_4.out).2.1); (case side3 => first | exact hG | exact GL.below hG (by repeat (first | (with_reducible first | exact HB.out | apply below_alloc | apply pw_below_drewN | apply below_drew1) | exact HB.out))); rintro e w41 ⟨v282, rfl, ho0, hb⟩; refine ⟨_, rfl, ?_⟩; have n0_ := Aside0.mk (Kd.R_elder' (by (with_reducible repeat (first | apply Kd.R_alloc | apply Kd.R_drewN | apply Kd.R_drew)); exact HO_4.out) (Kd.R_base ho0) hb); have n1_ := Aside0.mk (Kd.R_elder' (by (with_reducible repeat (first | apply Kd.R_alloc | apply Kd.R_drewN | apply Kd.R_drew)); exact HO_6.out) (Kd.R_base ho0) hb); have n2_ := Aside0.mk (Kd.R_lower (Kd.R_new' (Kd.R_new' ho0 (Kd.R_lt (by (with_reducible repeat (first | apply Kd.R_alloc | apply Kd.R_drewN | apply Kd.R_drew)); exact HO_4.out))) (Kd.R_lt (by (with_reducible repeat (first | apply Kd.R_alloc | apply Kd.R_drewN | apply Kd.R_drew)); exact HO_6.out))) (below_size (by repeat (first | (with_reducible first | exact HB.out | apply below_alloc | apply pw_below_drewN | apply below_drew1) | exact HB.out)))); have n3_ := Aside0.mk (below_step (by repeat (first | (with_reducible first | exact HB.out | apply below_alloc | apply pw_below_drewN | apply below_drew1) | exact HB.out)) hb); clear HO_4; clear HO_6; clear HB; have HO_4 := n0_; have HO_6 := n1_; have HO283 := n2_; have HB := n3_; clear n0_ n1_ n2_ n3_; (try clear hb); (try clear hb2); (try clear hk); (try clear hi); (try clear ho0)) | ((with_reducible refine gate_callee (f := 26) rfl ?_); refine goesL_ (some 74) rfl rfl Tryd.func26 (by kernel_rfl) rfl #[.int .i64 a1, .int .i64 a2, .string js18, .slice Ao27 t275.length co27] rfl (by (try simp only [List.map_toArray, List.map_cons, List.map_nil]); first | done | rfl | (simp only [List.length_drop, List.length_take]; rfl)) ?_; (with_reducible refine (airchecklaw02_way.calls kj20 a1 a2 js18 _ _ t275 t284 t285 _ ?side1 ?side2 ?side3 A33.out).mono ?_); (case side1 => repeat (first | exact (Kd.R_reads' HO_6.out).2.2 | (with_reducible refine Kd.C_alloc ?_ _) | (with_reducible refine Kd.C_drewN ?_ _) | (with_reducible refine Kd.C_drew ?_))); (case side2 => exact (Kd.R_reads' HO_6.out).2.1); (case side3 => first | exact hG | exact GL.below hG (by repeat (first | (with_reducible first | exact HB.out | apply below_alloc | apply pw_below_drewN | apply below_drew1) | exact HB.out))); rintro e w42 ⟨v286, rfl, ho0, hb⟩; refine ⟨_, rfl, ?_⟩; have n0_ := Aside0.mk (Kd.R_elder' (by (with_reducible repeat (first | apply Kd.R_alloc | apply Kd.R_drewN | apply Kd.R_drew)); exact HO_4.out) (Kd.R_base ho0) hb); have n1_ := Aside0.mk (Kd.R_elder' (by (with_reducible repeat (first | apply Kd.R_alloc | apply Kd.R_drewN | apply Kd.R_drew)); exact HO_6.out) (Kd.R_base ho0) hb); have n2_ := Aside0.mk (Kd.R_elder' (by (with_reducible repeat (first | apply Kd.R_alloc | apply Kd.R_drewN | apply Kd.R_drew)); exact HO283.out) (Kd.R_base ho0) hb); have n3_ := Aside0.mk (Kd.R_lower (Kd.R_new' (Kd.R_new' (Kd.R_new' ho0 (Kd.R_lt (by (with_reducible repeat (first | apply Kd.R_alloc | apply Kd.R_drewN | apply Kd.R_drew)); exact HO_4.out))) (Kd.R_lt (by (with_reducible repeat (first | apply Kd.R_alloc | apply Kd.R_drewN | apply Kd.R_drew)); exact HO_6.out))) (Kd.R_lt (by (with_reducible repeat (first | apply Kd.R_alloc | apply Kd.R_drewN | apply Kd.R_drew)); exact HO283.out))) (below_size (by repeat (first | (with_reducible first | exact HB.out | apply below_alloc | apply pw_below_drewN | apply below_drew1) | exact HB.out)))); have n4_ := Aside0.mk (below_step (by repeat (first | (with_reducible first | exact HB.out | apply below_alloc | apply pw_below_drewN | apply below_drew1) | exact HB.out)) hb); clear HO_4; clear HO_6; clear HO283; clear HB; have HO_4 := n0_; have HO_6 := n1_; have HO283 := n2_; have HO287 := n3_; have HB := n4_; clear n0_ n1_ n2_ n3_ n4_; (try clear hb); (try clear hb2); (try clear hk); (try clear hi); (try clear ho0)))
         go_ret
         exact ⟨by first | rfl | (simp [errW_none, errW_some] <;> rfl) | (simp only [← hji11, ← hjs14, ← hji15, ← hjs18]; first | rfl | (simp [errW_none, errW_some] <;> rfl)) | (simp [*, errW_none, errW_some] <;> rfl), by repeat (first | (with_reducible first | exact HB.out | apply below_alloc | apply pw_below_drewN | apply below_drew1) | exact HB.out)⟩
    ·rw [if_neg c17] at H
     exact absurd H (by simp)
   ·rw [if_neg c16] at H
    exact absurd H (by simp)
  ·rw [if_neg c13] at H
   exact absurd H (by simp)
 ·rw [if_neg c12] at H
  exact absurd H (by simp)
end Go.Proofs.YtlmlimihgohchaaDoor.PD
end
section
/-
  Whoever proves two different entries for the same place has found two different strings with the same digest.
-/
set_option linter.unusedVariables false
set_option linter.unusedSimpArgs false
namespace Go.Proofs.YtlmlimihgohchaaDoor.Pure
open Go.RowKit Go.Proofs.YtlmlimihgohchaaDoorW.PrintWords Go.Proofs.YtlmlimihgohchaaDoorW.PrintLast Go.Proofs.YtlmlimihgohchaaDoorW.PrintMore Go.Proofs.YtlmlimihgohchaaDoor.Ext Go.Proofs.YtlmlimihgohchaaDoor.PD Go.Proofs.YtlmlimihgohchaaDoor.DigSpec
theorem DigestBinding (a0 : ByteArray) (a1 a2 : Int) (a3 : ByteArray) (l4 : List ByteArray) (a5 : ByteArray) (l6 : List ByteArray)
    (w0 : a0.size ≤ 140737488351232) (w1 : (Lit.int .i64 a1).wf = true) (w2 : (Lit.int .i64 a2).wf = true) (w3 : a3.size ≤ 140737488351232) (w4 : ∀ n ∈ l4, n.size ≤ maxLen) (w5 : a5.size ≤ 140737488351232) (w6 : ∀ n ∈ l6, n.size ≤ maxLen) :
    ∃ k, airchecklaw02_DigestBinding.f k a0 a1 a2 a3 l4 a5 l6 = some true := by
  have r1 := wf64 w1
  have r2 := wf64 w2
  refine ⟨2999 + 1, ?_⟩
  obtain ⟨P, hP, lP, sP, _⟩ := few_ok (2999 + 1) l4 70 (by omega) (by omega) 70 rfl
  obtain ⟨Q, hQ, lQ, sQ, _⟩ := few_ok (2999 + 1) l6 70 (by omega) (by omega) 70 rfl
  have m3 : mn (a3.size : Int) 60 = ((min a3.size 60 : Nat) : Int) := mn_is a3 60
  have m5 : mn (a5.size : Int) 60 = ((min a5.size 60 : Nat) : Int) := mn_is a5 60
  unfold airchecklaw02_DigestBinding.f
  rw [sane_is _ (by omega), Option.bind_some, hP, Option.bind_some, hQ, Option.bind_some, m3, m5, if_pos (by omega), if_pos (by omega), if_pos (by omega), if_pos (by omega), cut_is, cut_is]
  have hs := cut_le a3
  have ht := cut_le a5
  generalize cut 60 a3 = s at *
  generalize cut 60 a5 = t at *
  have fP : fits P := fits_of (by omega) (fun x hx => Nat.le_trans (sP x hx) (by omega))
  have fQ : fits Q := fits_of (by omega) (fun x hx => Nat.le_trans (sQ x hx) (by omega))
  rw [verify_ok a0 a1 a2 s P fP (by omega) r1 r2, Option.bind_some, verify_ok a0 a1 a2 t Q fQ (by omega) r1 r2, Option.bind_some]
  by_cases h1 : verifyB a0 a1 a2 s P = true
  · rw [if_pos h1]
    by_cases h2 : verifyB a0 a1 a2 t Q = true
    · rw [if_pos h2, toList_beq, airchecklaw02_DigestBinding.j0]
      by_cases hst : s = t
      · rw [decide_eq_true hst, if_pos rfl]
      · rw [decide_eq_false hst, if_neg (by decide)]
        obtain ⟨⟨hi0, hin⟩, d1, v1⟩ := verifyB_true.1 h1
        obtain ⟨_, d2, v2⟩ := verifyB_true.1 h2
        obtain ⟨i, rfl⟩ := Int.eq_ofNat_of_zero_le hi0
        obtain ⟨n, rfl⟩ := Int.eq_ofNat_of_zero_le (show 0 ≤ a1 by omega)
        rw [Int.toNat_natCast, Int.toNat_natCast] at v1 v2
        have e1 := way_is P.reverse n i 2999 s (by omega) (by omega) (by omega) (fun x hx => sP x (List.mem_reverse.1 hx)) (by simp; omega) (by simp; omega)
        have e2 := way_is Q.reverse n i 2999 t (by omega) (by omega) (by omega) (fun x hx => sQ x (List.mem_reverse.1 hx)) (by simp; omega) (by simp; omega)
        rw [List.reverse_reverse] at e1 e2
        obtain ⟨z1, z2, _⟩ := way_sizes n i s (by omega) P.reverse (fun x hx => sP x (List.mem_reverse.1 hx))
        obtain ⟨z3, z4, _⟩ := way_sizes n i t (by omega) Q.reverse (fun x hx => sQ x (List.mem_reverse.1 hx))
        rw [List.length_reverse] at z2 z4
        have hc := Tree.binding Ext.hash preL preN (fun x => x.size = 32) hash_size (fun a b h => preL_inj h) (fun a b c d h1 _ h3 _ h => preN_inj h1 h3 h) (n := n) (i := i) (by omega)
          (fun x hx => d1 x (List.mem_reverse.1 hx)) (fun x hx => d2 x (List.mem_reverse.1 hx)) v1 v2 hst
        rw [e1, Option.bind_some, e2, Option.bind_some, if_pos rfl, collide_is (by omega) (fun x hx => Nat.le_trans (z1 x hx) (by omega)) (fun x hx => Nat.le_trans (z3 x hx) (by omega)) hc 2999 (by omega)]
        rfl
    · rw [if_neg h2, airchecklaw02_DigestBinding.j0, if_pos rfl]
  · rw [if_neg h1, airchecklaw02_DigestBinding.j0, if_pos rfl]
end Go.Proofs.YtlmlimihgohchaaDoor.Pure
end
section
/-
  The law DigestBinding answers true for every input: its row and its tied card. Conditions: the row's own (the listed table reads as the program's start lays it; the card ties that to the program's text).
-/
namespace Go.Proofs.YtlmlimihgohchaaDoor.digestBinding
open Go.ChangeShapes Go.WideShapes Go.ChangeAt Go.RowKit
open Go.ChangeMaps (open_string shut_string)
set_option linter.unusedVariables false
theorem own : ownKnob Tryd.prog.godebug = none := by kernel_rfl
theorem laidOut : laidOutB Tryd.prog = true := by kernel_rfl
/-- The program's start meets the condition. -/
theorem door_met (os : Os) (args : Array Value) : laidMetH Tryd.prog [("aircheck/digest.round", Rows.laid_aircheck_digest_round)] ((World.doorLaid Tryd.prog 400 os).forCall (fun _ _ => 0) ⟨#[], args, []⟩).memory :=
  laidMetH_of_parts3 (fuel := 8) (laidMet_of_run' 8 (by kernel_rfl) (by kernel_rfl)) (by kernel_rfl) (by kernel_rfl)
set_option maxRecDepth 100000 in
set_option maxHeartbeats 1000000 in
theorem lifted (os : Os) (started : os.Started) (H : Type) (enc : TypeId × Value → H) :
    ReturnsInHanded {} Tryd.checked os 7 .any (fun w args => (Rows.digestBindingSpec.pre enc Tryd.prog Tryd.f7 [] false w args ∧ laidMetH Tryd.prog [("aircheck/digest.round", Rows.laid_aircheck_digest_round)] w) ∧ sizedMet enc Tryd.prog Tryd.f7 (OpenSpec.ofChange Rows.digestBindingSpec) false w args)
      (Rows.digestBindingSpec.post enc Tryd.prog Tryd.f7 false true false false) := by
  refine returnsInHanded_of_change_and (C := Tryd.checked) (X := fun w _ => laidMetH Tryd.prog [("aircheck/digest.round", Rows.laid_aircheck_digest_round)] w) (fun _ _ _ hh h => h.of_heap hh) own started (by kernel_rfl) Tryd.func7
    (ChangeSpec.witness_shaped (enc := enc) (C := Tryd.checked) (os := os) (X := fun w _ => laidMetH Tryd.prog [("aircheck/digest.round", Rows.laid_aircheck_digest_round)] w) false (World.doorLaid Tryd.prog 400 os) #[.string ByteArray.empty, .int .i64 0, .int .i64 0, .string ByteArray.empty, .slice none 0 0, .string ByteArray.empty, .slice none 0 0] 8 rfl (World.shaped_of_RefB (by kernel_rfl) (by kernel_rfl)) (by kernel_rfl) (by kernel_rfl) (by kernel_rfl) (door_met os _)) ?_
  intro W base args ds gs before hval0 hW hcnd hsz0 hL _
  have hsz : (DataW.weightsEach Tryd.prog (Tryd.f7.params.toList ++ Rows.digestBindingSpec.plain.varTypes Tryd.prog) (ds ++ gs)).all (· ≤ reachBytes) = true := hsz0
  have hval : ∀ (j : Nat) t v, Tryd.f7.params[j]? = some t → args[j]? = some v → Value.okWide Tryd.prog W .any base t v := hval0
  have hW' := hW
  obtain ⟨p, q, hA0, hV, rfl, hfz, hnd⟩ := hW
  have hA : DataW.TrodAll enc Tryd.prog W 0 (fun _ => true) true Tryd.f7.params.toList args.toList ds p := hA0
  rw [Tryd.params7] at hA hval hsz
  obtain ⟨v0, vs0, d0, ds0, p0, q0, hargs, rfl, rfl, h0, r0⟩ := trodAll_cons hA
  obtain ⟨v1, vs1, d1, ds1, p1, q1, rfl, rfl, rfl, h1, r1⟩ := trodAll_cons r0
  obtain ⟨v2, vs2, d2, ds2, p2, q2, rfl, rfl, rfl, h2, r2⟩ := trodAll_cons r1
  obtain ⟨v3, vs3, d3, ds3, p3, q3, rfl, rfl, rfl, h3, r3⟩ := trodAll_cons r2
  obtain ⟨v4, vs4, d4, ds4, p4, q4, rfl, rfl, rfl, h4, r4⟩ := trodAll_cons r3
  obtain ⟨v5, vs5, d5, ds5, p5, q5, rfl, rfl, rfl, h5, r5⟩ := trodAll_cons r4
  obtain ⟨v6, vs6, d6, ds6, p6, q6, rfl, rfl, rfl, h6, r6⟩ := trodAll_cons r5
  obtain ⟨rfl, rfl, rfl⟩ := trodAll_nil r6
  obtain rfl : args = #[v0, v1, v2, v3, v4, v5, v6] := by cases args; simp_all
  obtain ⟨rfl, rfl⟩ := trodVars_none hV
  obtain ⟨a0, rfl, rfl, rfl, y0⟩ := open_string Tryd.underlying9 (hval 0 9 v0 rfl rfl) h0
  have w0 : a0.size ≤ 140737488351232 := by
    have z := sized_string hsz (j := 0) (t := 9) rfl rfl
    rw [Array.length_toList] at z
    exact z
  obtain ⟨a1, rfl, rfl, rfl, w1⟩ := open_int Tryd.underlying3 (hval 1 3 v1 rfl rfl) h1
  obtain ⟨a2, rfl, rfl, rfl, w2⟩ := open_int Tryd.underlying3 (hval 2 3 v2 rfl rfl) h2
  obtain ⟨a3, rfl, rfl, rfl, y3⟩ := open_string Tryd.underlying9 (hval 3 9 v3 rfl rfl) h3
  have w3 : a3.size ≤ 140737488351232 := by
    have z := sized_string hsz (j := 3) (t := 9) rfl rfl
    rw [Array.length_toList] at z
    exact z
  obtain ⟨a4, len4, cap4, rfl⟩ := okWide_slice Tryd.underlying22 (hval 4 22 v4 rfl rfl)
  have k4 := h4
  have lt4 : ∀ x ∈ p4, x.block < W.heap.size := by obtain ⟨m, hm⟩ := k4; exact DataW.trod_lt m _ _ _ hm
  obtain ⟨z4, w4⟩ : ∃ zs : List ByteArray, (a4 = none ∧ len4 = 0 ∧ cap4 = 0 ∧ zs = []) ∨ ∃ x, a4 = some x ∧ len4 ≤ cap4 ∧ cap4 ≤ maxLen ∧ zs.length = cap4 ∧ (∀ i, i < zs.length → W.cell? (x.add i) = some (.string (zs.getD i ByteArray.empty))) ∧ ∀ n ∈ zs, n.size ≤ maxLen := by
    obtain ⟨fuel, hf⟩ := h4
    rcases open_strings Tryd.underlying22 Tryd.underlying9 (by kernel_rfl) hf with ⟨hcs, _⟩ | ⟨x, l, c, zs, hcs, _, hl, hm, hz, _, hcell, hwz⟩
    · simp [Value.cells] at hcs
      obtain ⟨rfl, rfl, rfl⟩ := hcs
      exact ⟨[], .inl ⟨rfl, rfl, rfl, rfl⟩⟩
    · simp [Value.cells] at hcs
      obtain ⟨rfl, rfl, rfl⟩ := hcs
      exact ⟨zs, .inr ⟨_, rfl, hl, hm, by simpa using hz, hcell, hwz⟩⟩
  obtain ⟨l4, rfl, hr4, hm4, hw4, hc4⟩ := Ext.ofRow_strs w4
  obtain ⟨a5, rfl, rfl, rfl, y5⟩ := open_string Tryd.underlying9 (hval 5 9 v5 rfl rfl) h5
  have w5 : a5.size ≤ 140737488351232 := by
    have z := sized_string hsz (j := 5) (t := 9) rfl rfl
    rw [Array.length_toList] at z
    exact z
  obtain ⟨a6, len6, cap6, rfl⟩ := okWide_slice Tryd.underlying22 (hval 6 22 v6 rfl rfl)
  have k6 := h6
  have lt6 : ∀ x ∈ p6, x.block < W.heap.size := by obtain ⟨m, hm⟩ := k6; exact DataW.trod_lt m _ _ _ hm
  obtain ⟨z6, w6⟩ : ∃ zs : List ByteArray, (a6 = none ∧ len6 = 0 ∧ cap6 = 0 ∧ zs = []) ∨ ∃ x, a6 = some x ∧ len6 ≤ cap6 ∧ cap6 ≤ maxLen ∧ zs.length = cap6 ∧ (∀ i, i < zs.length → W.cell? (x.add i) = some (.string (zs.getD i ByteArray.empty))) ∧ ∀ n ∈ zs, n.size ≤ maxLen := by
    obtain ⟨fuel, hf⟩ := h6
    rcases open_strings Tryd.underlying22 Tryd.underlying9 (by kernel_rfl) hf with ⟨hcs, _⟩ | ⟨x, l, c, zs, hcs, _, hl, hm, hz, _, hcell, hwz⟩
    · simp [Value.cells] at hcs
      obtain ⟨rfl, rfl, rfl⟩ := hcs
      exact ⟨[], .inl ⟨rfl, rfl, rfl, rfl⟩⟩
    · simp [Value.cells] at hcs
      obtain ⟨rfl, rfl, rfl⟩ := hcs
      exact ⟨zs, .inr ⟨_, rfl, hl, hm, by simpa using hz, hcell, hwz⟩⟩
  obtain ⟨l6, rfl, hr6, hm6, hw6, hc6⟩ := Ext.ofRow_strs w6
  clear hA0 hval0 hsz0 hsz
  have hG : Ext.GL W := Ext.gl_of_laid hL
  obtain ⟨k, hk⟩ := Pure.DigestBinding a0 a1 a2 a3 l4 a5 l6 w0 w1 w2 w3 hw4 w5 hw6
  refine (PD.airchecklaw02_DigestBinding.calls k a0 a1 a2 a3 _ _ l4 a5 _ _ l6 true W hr4 hc4 hr6 hc6 hG hk).mono fun e W' ⟨he, bel⟩ => ?_
  subst he
  exact ⟨_, rfl, _, _, _, [], _, [], hW', trodAll_mk1 (shut_bool Tryd.underlying4 _), (trodAll_cons_mk (shut_string Tryd.underlying9 y0) (trodAll_cons_mk (shut_int Tryd.underlying3 w1) (trodAll_cons_mk (shut_int Tryd.underlying3 w2) (trodAll_cons_mk (shut_string Tryd.underlying9 y3) (trodAll_cons_mk (Below.trod laidOut (by kernel_rfl) (of_decide_eq_true (by kernel_rfl)) k4 bel lt4) (trodAll_cons_mk (shut_string Tryd.underlying9 y5) (trodAll_cons_mk (Below.trod laidOut (by kernel_rfl) (of_decide_eq_true (by kernel_rfl)) k6 bel lt6) trodAll_mk0))))))), rfl, bel.frame _, fun h => by cases h⟩
theorem over : Rows.digestBindingRow.holds Tryd.pinned (OpenSpec.ofChange Rows.digestBindingSpec) :=
  OpenClaim.holds_of_wide 7 Tryd.f7 rfl rfl rfl rfl rfl rfl rfl ⟨rfl, rfl, rfl, rfl, rfl⟩ rfl rfl rfl rfl rfl (by kernel_rfl) Tryd.func7 (by kernel_rfl)
    (of_decide_eq_true (by kernel_rfl)) (by unfold Func.isWrapper; first | (rw [if_pos (by decide +kernel)]; kernel_rfl) | (rw [if_neg (by decide +kernel)]; exact ⟨rfl, rfl⟩))
    (fun os started H enc _ => lifted os started H enc)
theorem card_holds : Claim7.holds Tryd.pinned (.plain (OpenSpec.ofChange Rows.digestBindingSpec)) Rows.digestBindingCard :=
  Claim7.holds_tied_plain_at .later [] [.data] true (true, "ce2ba14b2c745cbf1c9c1cd819afa2c5f5f240e749974a17a068ca61a237d3cb") false
    over (fun _ h => by cases h) (by kernel_rfl) (fun _ h => by cases h) digestBinding_row_tie rfl ⟨rfl, rfl⟩ (by kernel_rfl) rfl
    (fun f fn hf hfn => by
      obtain rfl : f = 7 := Option.some.inj ((show Tryd.prog.funcNamed "aircheck/airchecklaw02.DigestBinding" = some 7 by kernel_rfl).symm.trans hf) |>.symm
      obtain rfl : fn = Tryd.f7 := (Option.some.inj (Tryd.func7.symm.trans hfn)).symm
      exact ⟨by kernel_rfl, fun j t ht => by
        rw [Tryd.params7] at ht
        have hm : t ∈ [9, 3, 3, 9, 22, 9, 22] := by simpa using Array.mem_of_getElem? ht
        have hall : ([9, 3, 3, 9, 22, 9, 22].all fun u => !Tryd.prog.wantsStandIn u) = true := by kernel_rfl
        exact (show Tryd.prog.wantsStandIn t = false by simpa using List.all_eq_true.1 hall t hm)⟩)
    (by kernel_rfl)
end Go.Proofs.YtlmlimihgohchaaDoor.digestBinding
namespace Go.Proofs.YtlmlimihgohchaaDoor
theorem digestBinding_holds : Rows.DigestBindingCardSaid := digestBinding.card_holds
#print axioms digestBinding_holds
end Go.Proofs.YtlmlimihgohchaaDoor
end
