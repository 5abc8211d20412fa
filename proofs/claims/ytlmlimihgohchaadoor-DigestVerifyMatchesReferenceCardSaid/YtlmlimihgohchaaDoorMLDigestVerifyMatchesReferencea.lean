import Derived.Test.YtlmlimihgohchaaDoorYExtRound
import Derived.Test.YtlmlimihgohchaaDoorRows
import Derived.LaidMore
import Derived.Lib.LaidTab
import Derived.MakeChecks
import Derived.Test.YtlmlimihgohchaaDoorMWa
import Derived.Test.YtlmlimihgohchaaDoorMCa
import Derived.Test.YtlmlimihgohchaaDoorMRc
import Derived.Test.YtlmlimihgohchaaDoorTie
import Derived.Test.YtlmlimihgohchaaDoorCards
import Derived.WalkKit
import Derived.ProofKit
import Derived.OpenShut
import Derived.ShutString
import Derived.ChangeOld
import Derived.Below
import Derived.SizedLaws
import Derived.Stop.Joined
import Derived.SevenTiedAt
import Derived.SliceStrings
/-
  The law's contract, its pure statement, its row and its card. Conditions: the row's own.
-/
section
/-
  From the row's condition on the digest's table to what the walks ask.
-/
namespace Go.Proofs.YtlmlimihgohchaaDoor.Ext
open Go.RowKit
theorem gN : Tryd.prog.globalNamed "aircheck/digest.round" = some 0 := by kernel_rfl
theorem gT : (Tryd.prog.globals[0]?).map (·.type) = some 88 := by kernel_rfl
theorem gl_of_laid {W : World} (h : laidMetH Tryd.prog [("aircheck/digest.round", Rows.laid_aircheck_digest_round)] W) : GL W := by
  rw [MakeChecks.laidMetH_plain _ _ _ (by kernel_rfl)] at h
  have hT := Lib.tabIs_of_head (zs := Sha.kk.map fun n : Nat => (n : Int)) gN gT Tryd.underlying88 Tryd.underlying69 (by kernel_rfl) (by kernel_rfl) h
  intro i hi
  have := hT.cell gN i (by simpa [Sha.kk] using hi)
  rw [this]
  congr 2
  have : i < Sha.kk.length := by simpa [Sha.kk] using hi
  simp [List.getD_eq_getElem?_getD, List.getElem?_eq_getElem this]
end Go.Proofs.YtlmlimihgohchaaDoor.Ext
end
section
/-
  Slices that came in, as lists.
-/
namespace Go.Proofs.YtlmlimihgohchaaDoor.Ext
open Go.RowKit Go.Proofs.YtlmlimihgohchaaDoorW.PrintWords
theorem ofRow_strs {w : World} {a : Option Addr} {len cap : Nat} {zs : List ByteArray} (h : (a = none ∧ len = 0 ∧ cap = 0 ∧ zs = []) ∨ ∃ x, a = some x ∧ len ≤ cap ∧ cap ≤ maxLen ∧ zs.length = cap ∧ (∀ i, i < zs.length → w.cell? (x.add i) = some (.string (zs.getD i ByteArray.empty))) ∧ ∀ n ∈ zs, n.size ≤ maxLen) :
    ∃ l : List ByteArray, len = l.length ∧ Kd.C Kd.string w a l.length l ∧ l.length ≤ maxLen ∧ (∀ x ∈ l, x.size ≤ maxLen) ∧ l.length ≤ cap := by
  rcases h with ⟨rfl, rfl, rfl, rfl⟩ | ⟨x, rfl, hl, hm, hz, hc, hw⟩
  · exact ⟨[], rfl, Kd.C_nil _ _, by simp, by simp, by simp⟩
  · have hlen : (zs.take len).length = len := by simp; omega
    refine ⟨zs.take len, hlen.symm, ?_, by omega, fun y hy => hw y (List.mem_of_mem_take hy), by omega⟩
    refine Kd.C_of_reads (d := ByteArray.empty) (h1 := fun _ => rfl) ⟨rfl, by unfold maxLen at hm; omega, fun _ => ⟨x, rfl, fun j hj => ?_⟩⟩
    rw [hc j (by omega)]
    congr 2
    rw [List.getD_eq_getElem?_getD, List.getD_eq_getElem?_getD, List.getElem?_take_of_lt (by omega)]
end Go.Proofs.YtlmlimihgohchaaDoor.Ext
end
section
-- Written by a program of this session out of the translation's print; not trusted: checked by the kernel.
namespace Go.Proofs.YtlmlimihgohchaaDoor.PD
open Go.Proofs.YtlmlimihgohchaaDoor.Ext
attribute [local go_sem] u32_signed u32_max
open Go.RowKit Go.Proofs.YtlmlimihgohchaaDoorW.PrintWords Go.Proofs.YtlmlimihgohchaaDoorW.PrintLast Go.Proofs.YtlmlimihgohchaaDoorW.PrintMore
attribute [local go_sem] max2_int min2_int max_two min_two max_three min_three max_four min_four   -- for this text's walks alone
set_option linter.unusedVariables false
set_option linter.unusedSimpArgs false
/-! ### aircheckref02_Digests: function 49 -/
def aircheckref02_Digests.l0 : Nat → List ByteArray → Int → Option (Bool)
 | 0, _, _ => none
 | k + 1, x0, x3 => if x3 < (x0.length : Int) then (if 0 ≤ x3 then (if ((rdOf ByteArray.empty x0 x3).size : Int) = 32 then (aircheckref02_Digests.l0 k x0 (wrap64 (x3 + 1))) else (some false)) else (none)) else (some true)
def aircheckref02_Digests.f (k : Nat) (l0 : List ByteArray) : Option (Bool) := aircheckref02_Digests.l0 k l0 0
set_option maxHeartbeats 8000000 in
set_option maxRecDepth 100000 in
theorem aircheckref02_Digests.calls (k : Nat) (A0 : Option Addr) (c0 : Nat) (l0 : List ByteArray) (r : Bool) (w : World) (hr0 : Kd.C Kd.string w A0 l0.length l0) (hc0 : l0.length ≤ c0) (h : aircheckref02_Digests.f k l0 = some r) :
  Calls Tryd.prog 49 #[.slice A0 l0.length c0] w fun e w' => e = .returned (.bool r) ∧ Drawn0 w w' := by
 have HR0 := Aside0.mk hr0
 have HC0 := Aside0.mk hc0
 clear hr0 hc0
 have H : (aircheckref02_Digests.l0 k l0 0) = some r := h
 clear h
 have H' := Aside0.mk H
 clear H
 go_enter Tryd.func49, Tryd.ntmps49
 go_wp2
 go_loopg [3] k (fun kq v3 w' => ∃ (x3_1 : Int), v3 = .int .i64 x3_1 ∧ Aside0 (aircheckref02_Digests.l0 kq l0 x3_1 = some r) ∧ Aside0 (kq ≤ k) ∧ Drawn0 w w')
 case atStart => exact ⟨(0), (by first | rfl | (simp; done) | (simp [*]; done)), H', ⟨Nat.le_refl _⟩, by repeat (first | exact Drawn0.refl _ | apply Drawn0.step)⟩
 case round =>
  clear H'
  obtain ⟨x3_1, rfl, HA, HK1, ⟨m1, rfl⟩⟩ := hrel
  cases gk with
  | zero => exact absurd HA.out (by simp [aircheckref02_Digests.l0])
  | succ k1 =>
   have H := HA.out
   clear HA
   simp only [aircheckref02_Digests.l0] at H
   by_cases c2 : x3_1 < (l0.length : Int)
   ·rw [if_pos c2] at H
    have c2b0 : decide (x3_1 < (l0.length : Int)) = true := decide_eq_true c2
    clear c2
    by_cases c3 : 0 ≤ x3_1
    ·rw [if_pos c3] at H
     have c3b0 : decide (0 ≤ x3_1) = true := decide_eq_true c3
     clear c3
     by_cases c4 : ((rdOf ByteArray.empty l0 x3_1).size : Int) = 32
     ·rw [if_pos c4] at H
      have c4b0 : (((rdOf ByteArray.empty l0 x3_1).size : Int) == 32) = true := beq_iff_eq.mpr c4
      have c4b1 : (((rdOf ByteArray.empty l0 x3_1).size : Int) != 32) = false := bne_eq_false_iff_eq.mpr c4
      clear c4
      have H' := Aside0.mk H
      clear H
      have p513 : 0 ≤ (x3_1 : Int) := of_decide_eq_true (by first | (with_reducible assumption) | assumption)
      have q513 : x3_1 < (l0.length : Int) := of_decide_eq_true (by first | (with_reducible assumption) | assumption)
      obtain ⟨ad513, e513, hx513_0⟩ := Kd.at_string HR0.out x3_1 p513 q513
      cases e513
      replace p513 := eq_true p513
      replace q513 := eq_true q513
      go_wp2
      go_roundg k1
      case measure => have := HK1.out; omega
      case rel => exact ⟨(wrap64 (x3_1 + 1)), (by first | rfl | (simp; done) | (simp [*]; done)), H', ⟨by have := HK1.out; omega⟩, by repeat (first | exact Drawn0.refl _ | apply Drawn0.step)⟩
     ·rw [if_neg c4] at H
      have c4b0 : (((rdOf ByteArray.empty l0 x3_1).size : Int) == 32) = false := beq_eq_false_iff_ne.mpr c4
      have c4b1 : (((rdOf ByteArray.empty l0 x3_1).size : Int) != 32) = true := bne_iff_ne.mpr c4
      obtain rfl := Option.some.inj H
      have p513 : 0 ≤ (x3_1 : Int) := of_decide_eq_true (by first | (with_reducible assumption) | assumption)
      have q513 : x3_1 < (l0.length : Int) := of_decide_eq_true (by first | (with_reducible assumption) | assumption)
      obtain ⟨ad513, e513, hx513_0⟩ := Kd.at_string HR0.out x3_1 p513 q513
      cases e513
      replace p513 := eq_true p513
      replace q513 := eq_true q513
      go_wp2
      go_ret
      exact ⟨by first | rfl | (simp; done) | (simp [*]; done), by repeat (first | exact Drawn0.refl _ | apply Drawn0.step)⟩
    ·rw [if_neg c3] at H
     exact absurd H (by simp)
   ·rw [if_neg c2] at H
    have c2b0 : decide (x3_1 < (l0.length : Int)) = false := decide_eq_false c2
    clear c2
    obtain rfl := Option.some.inj H
    go_wp2
    go_ret
    exact ⟨by first | rfl | (simp; done) | (simp [*]; done), by repeat (first | exact Drawn0.refl _ | apply Drawn0.step)⟩
end Go.Proofs.YtlmlimihgohchaaDoor.PD
end
section
-- Written by a program of this session out of the translation's print; not trusted: checked by the kernel.
namespace Go.Proofs.YtlmlimihgohchaaDoor.PD
open Go.Proofs.YtlmlimihgohchaaDoor.Ext
attribute [local go_sem] u32_signed u32_max
open Go.RowKit Go.Proofs.YtlmlimihgohchaaDoorW.PrintWords Go.Proofs.YtlmlimihgohchaaDoorW.PrintLast Go.Proofs.YtlmlimihgohchaaDoorW.PrintMore
attribute [local go_sem] max2_int min2_int max_two min_two max_three min_three max_four min_four   -- for this text's walks alone
set_option linter.unusedVariables false
set_option linter.unusedSimpArgs false
/-! ### aircheckref02_value: function 50 -/
def aircheckref02_value.f : Nat → Int → Int → ByteArray → List ByteArray → Option (ByteArray × Bool)
 | 0, _, _, _, _ => none
 | k + 1, a0, a1, a2, l3 => if a0 = 1 then ((aircheckref02_Leaf.f k a2).bind fun t514 => (some (t514, decide ((wrap64 ((l3.length : Int) - 1)) < 0)))) else (if (wrap64 ((l3.length : Int) - 1)) < 0 then (some ((⟨#[]⟩ : ByteArray), false)) else ((aircheckref02_Left.f k a0).bind fun t515 => (if a1 < t515 then (if 0 ≤ (wrap64 ((l3.length : Int) - 1)) then (if (wrap64 ((l3.length : Int) - 1)) ≤ (l3.length : Int) then ((aircheckref02_value.f k t515 a1 a2 (l3.take ((wrap64 ((l3.length : Int) - 1)) : Int).toNat)).bind fun bt517 => (if (wrap64 ((l3.length : Int) - 1)) < (l3.length : Int) then ((aircheckref02_Node.f k bt517.1 (rdOf ByteArray.empty l3 (wrap64 ((l3.length : Int) - 1)))).bind fun t520 => (some (t520, bt517.2))) else (none))) else (none)) else (none)) else (if 0 ≤ (wrap64 ((l3.length : Int) - 1)) then (if (wrap64 ((l3.length : Int) - 1)) ≤ (l3.length : Int) then ((aircheckref02_value.f k (wrap64 (a0 - t515)) (wrap64 (a1 - t515)) a2 (l3.take ((wrap64 ((l3.length : Int) - 1)) : Int).toNat)).bind fun bt522 => (if (wrap64 ((l3.length : Int) - 1)) < (l3.length : Int) then ((aircheckref02_Node.f k (rdOf ByteArray.empty l3 (wrap64 ((l3.length : Int) - 1))) bt522.1).bind fun t525 => (some (t525, bt522.2))) else (none))) else (none)) else (none)))))
set_option maxHeartbeats 8000000 in
set_option maxRecDepth 100000 in
theorem aircheckref02_value.calls (k : Nat) : ∀ (a0 : Int) (a1 : Int) (a2 : ByteArray) (A3 : Option Addr) (c3 : Nat) (l3 : List ByteArray) (r1 : ByteArray) (r2 : Bool) (w : World) (hr3 : Kd.C Kd.string w A3 l3.length l3) (hc3 : l3.length ≤ c3) (h : aircheckref02_value.f k a0 a1 a2 l3 = some (r1, r2)),
  Calls Tryd.prog 50 #[.int .i64 a0, .int .i64 a1, .string a2, .slice A3 l3.length c3] w fun e w' => e = .returned (.tuple #[.string r1, .bool r2]) ∧ Below w.heap.size w w' := by
 induction k using Nat.strongRecOn with
 | _ k ih =>
 intro a0 a1 a2 A3 c3 l3 r1 r2 w hr3 hc3 h
 cases k with
 | zero => exact absurd h (by simp [aircheckref02_value.f])
 | succ k =>
 simp only [aircheckref02_value.f] at h
 have HR3 := Aside0.mk hr3
 have HC3 := Aside0.mk hc3
 clear hr3 hc3
 have HB := Aside0.mk (Below.refl w.heap.size w)
 have H : (if a0 = 1 then ((aircheckref02_Leaf.f k a2).bind fun t514 => (some (t514, decide ((wrap64 ((l3.length : Int) - 1)) < 0)))) else (if (wrap64 ((l3.length : Int) - 1)) < 0 then (some ((⟨#[]⟩ : ByteArray), false)) else ((aircheckref02_Left.f k a0).bind fun t515 => (if a1 < t515 then (if 0 ≤ (wrap64 ((l3.length : Int) - 1)) then (if (wrap64 ((l3.length : Int) - 1)) ≤ (l3.length : Int) then ((aircheckref02_value.f k t515 a1 a2 (l3.take ((wrap64 ((l3.length : Int) - 1)) : Int).toNat)).bind fun bt517 => (if (wrap64 ((l3.length : Int) - 1)) < (l3.length : Int) then ((aircheckref02_Node.f k bt517.1 (rdOf ByteArray.empty l3 (wrap64 ((l3.length : Int) - 1)))).bind fun t520 => (some (t520, bt517.2))) else (none))) else (none)) else (none)) else (if 0 ≤ (wrap64 ((l3.length : Int) - 1)) then (if (wrap64 ((l3.length : Int) - 1)) ≤ (l3.length : Int) then ((aircheckref02_value.f k (wrap64 (a0 - t515)) (wrap64 (a1 - t515)) a2 (l3.take ((wrap64 ((l3.length : Int) - 1)) : Int).toNat)).bind fun bt522 => (if (wrap64 ((l3.length : Int) - 1)) < (l3.length : Int) then ((aircheckref02_Node.f k (rdOf ByteArray.empty l3 (wrap64 ((l3.length : Int) - 1))) bt522.1).bind fun t525 => (some (t525, bt522.2))) else (none))) else (none)) else (none)))))) = some (r1, r2) := h
 clear h
 by_cases c5 : a0 = 1
 ·rw [if_pos c5] at H
  have c5b0 : (a0 == 1) = true := beq_iff_eq.mpr c5
  have c5b1 : (a0 != 1) = false := bne_eq_false_iff_eq.mpr c5
  clear c5
  replace H := Option.bind_eq_some_iff.mp H
  obtain ⟨t514, A60, H⟩ := H
  replace H : (some (t514, decide ((wrap64 ((l3.length : Int) - 1)) < 0))) = some (r1, r2) := H
  have A6 := Aside0.mk A60
  clear A60
  simp only [Option.some.injEq, Prod.mk.injEq] at H
  obtain ⟨rfl, rfl⟩ := H
  go_enter Tryd.func50, Tryd.ntmps50
  go_wp2_with (first | ((with_reducible refine gate_callee (f := 34) rfl ?_); refine goesL_ (some 22) rfl rfl Tryd.func34 (by kernel_rfl) rfl #[.string a2] rfl (by (try simp only [List.map_toArray, List.map_cons, List.map_nil]); first | done | rfl | (simp only [List.length_drop, List.length_take]; rfl)) ?_; (with_reducible refine (aircheckref02_Leaf.calls k a2 t514 _ A6.out).mono ?_); rintro e w7 ⟨rfl, hb⟩; refine ⟨_, rfl, ?_⟩; have n0_ := Aside0.mk (below_step (by repeat (first | (with_reducible first | exact HB.out | apply below_alloc | apply pw_below_drewN | apply below_drew1) | exact HB.out)) hb); clear HB; have HB := n0_; clear n0_; (try clear hb); (try clear hb2); (try clear hk); (try clear hi)))
  go_ret2
  exact ⟨by first | rfl | (simp [errW_none, errW_some] <;> rfl) | (simp [*, errW_none, errW_some] <;> rfl), by repeat (first | (with_reducible first | exact HB.out | apply below_alloc | apply pw_below_drewN | apply below_drew1) | exact HB.out)⟩
 ·rw [if_neg c5] at H
  have c5b0 : (a0 == 1) = false := beq_eq_false_iff_ne.mpr c5
  have c5b1 : (a0 != 1) = true := bne_iff_ne.mpr c5
  by_cases c8 : (wrap64 ((l3.length : Int) - 1)) < 0
  ·rw [if_pos c8] at H
   have c8b0 : decide ((wrap64 ((l3.length : Int) - 1)) < 0) = true := decide_eq_true c8
   clear c8
   simp only [Option.some.injEq, Prod.mk.injEq] at H
   obtain ⟨rfl, rfl⟩ := H
   go_enter Tryd.func50, Tryd.ntmps50
   go_wp2
   go_ret2
   exact ⟨by first | rfl | (simp [errW_none, errW_some] <;> rfl) | (simp [*, errW_none, errW_some] <;> rfl), by repeat (first | (with_reducible first | exact HB.out | apply below_alloc | apply pw_below_drewN | apply below_drew1) | exact HB.out)⟩
  ·rw [if_neg c8] at H
   have c8b0 : decide ((wrap64 ((l3.length : Int) - 1)) < 0) = false := decide_eq_false c8
   clear c8
   replace H := Option.bind_eq_some_iff.mp H
   obtain ⟨t515, A90, H⟩ := H
   replace H : (if a1 < t515 then (if 0 ≤ (wrap64 ((l3.length : Int) - 1)) then (if (wrap64 ((l3.length : Int) - 1)) ≤ (l3.length : Int) then ((aircheckref02_value.f k t515 a1 a2 (l3.take ((wrap64 ((l3.length : Int) - 1)) : Int).toNat)).bind fun bt517 => (if (wrap64 ((l3.length : Int) - 1)) < (l3.length : Int) then ((aircheckref02_Node.f k bt517.1 (rdOf ByteArray.empty l3 (wrap64 ((l3.length : Int) - 1)))).bind fun t520 => (some (t520, bt517.2))) else (none))) else (none)) else (none)) else (if 0 ≤ (wrap64 ((l3.length : Int) - 1)) then (if (wrap64 ((l3.length : Int) - 1)) ≤ (l3.length : Int) then ((aircheckref02_value.f k (wrap64 (a0 - t515)) (wrap64 (a1 - t515)) a2 (l3.take ((wrap64 ((l3.length : Int) - 1)) : Int).toNat)).bind fun bt522 => (if (wrap64 ((l3.length : Int) - 1)) < (l3.length : Int) then ((aircheckref02_Node.f k (rdOf ByteArray.empty l3 (wrap64 ((l3.length : Int) - 1))) bt522.1).bind fun t525 => (some (t525, bt522.2))) else (none))) else (none)) else (none))) = some (r1, r2) := H
   have A9 := Aside0.mk A90
   clear A90
   by_cases c10 : a1 < t515
   ·rw [if_pos c10] at H
    have c10b0 : decide (a1 < t515) = true := decide_eq_true c10
    clear c10
    obtain ⟨ji11, hji11⟩ : ∃ j_ : Int, (wrap64 ((l3.length : Int) - 1)) = j_ := ⟨_, rfl⟩
    replace H : (if 0 ≤ (ji11) then (if (ji11) ≤ (l3.length : Int) then ((aircheckref02_value.f k t515 a1 a2 (l3.take ((ji11) : Int).toNat)).bind fun bt517 => (if (ji11) < (l3.length : Int) then ((aircheckref02_Node.f k bt517.1 (rdOf ByteArray.empty l3 (ji11))).bind fun t520 => (some (t520, bt517.2))) else (none))) else (none)) else (none)) = some (r1, r2) := by first | (rw [hji11] at H; exact H) | (simp only [hji11] at H ⊢; exact H)
    (try rw [hji11] at c8b0)
    (try rw [hji11] at A9)
    have hji11w : (IntKind.i64.wrap ((l3.length : Int) - 1)) = ji11 := (i64_w _).trans hji11
    by_cases c12 : 0 ≤ (ji11)
    ·rw [if_pos c12] at H
     have c12b0 := eq_true c12
     have c12b1 : decide (0 ≤ (ji11)) = true := decide_eq_true c12
     clear c12
     by_cases c13 : (ji11) ≤ (l3.length : Int)
     ·rw [if_pos c13] at H
      have c13b0 := eq_true c13
      have c13b1 : decide ((ji11) ≤ (l3.length : Int)) = true := decide_eq_true c13
      clear c13
      replace H := Option.bind_eq_some_iff.mp H
      obtain ⟨⟨t517, t518⟩, A140, H⟩ := H
      replace H : (if (ji11) < (l3.length : Int) then ((aircheckref02_Node.f k t517 (rdOf ByteArray.empty l3 (ji11))).bind fun t520 => (some (t520, t518))) else (none)) = some (r1, r2) := H
      have A14 := Aside0.mk A140
      clear A140
      by_cases c15 : (ji11) < (l3.length : Int)
      ·rw [if_pos c15] at H
       have c15b0 : decide ((ji11) < (l3.length : Int)) = true := decide_eq_true c15
       clear c15
       replace H := Option.bind_eq_some_iff.mp H
       obtain ⟨t520, A160, H⟩ := H
       replace H : (some (t520, t518)) = some (r1, r2) := H
       have A16 := Aside0.mk A160
       clear A160
       simp only [Option.some.injEq, Prod.mk.injEq] at H
       obtain ⟨rfl, rfl⟩ := H
       go_enter Tryd.func50, Tryd.ntmps50
       go_wp2_with (first | ((with_reducible refine gate_callee (f := 42) rfl ?_); refine goesL_ (some 28) rfl rfl Tryd.func42 (by kernel_rfl) rfl #[.int .i64 a0] rfl (by (try simp only [List.map_toArray, List.map_cons, List.map_nil]); first | done | rfl | (simp only [List.length_drop, List.length_take]; rfl)) ?_; (with_reducible refine (aircheckref02_Left.calls k a0 t515 _ A9.out).mono ?_); rintro e w' ⟨rfl, ⟨nd, rfl⟩⟩; refine ⟨_, rfl, ?_⟩; obtain ⟨i017, hi017, _, hsz17, _⟩ := info_parts info9; obtain ⟨hcut17, hA17, hC17⟩ := print_take_of (P := Tryd.prog) Value.string (⟨#[]⟩ : ByteArray) 22 9 .i64 Tryd.underlying22 hi017 hsz17 A3 c3 l3 (ji11) (of_decide_eq_true (by first | (with_reducible assumption) | assumption)) (of_decide_eq_true (by first | (with_reducible assumption) | assumption)) HC3.out; have HR516 := Aside0.mk (Kd.C_of_reads (h1 := fun _ => rfl) (hA17 _ (Kd.reads_of_C HR3.out))); have HC516 := Aside0.mk hC17; clear hA17 hC17 hi017 hsz17) | ((with_reducible refine gate_callee (f := 50) rfl ?_); refine goesL_ (some 39) rfl rfl Tryd.func50 (by kernel_rfl) rfl #[.int .i64 t515, .int .i64 a1, .string a2, .slice A3 (l3.take ((ji11) : Int).toNat).length c3] rfl (by (try simp only [List.map_toArray, List.map_cons, List.map_nil]); first | done | (rw [show (l3.take ((ji11) : Int).toNat).length = (ji11).toNat from (by rw [List.length_take]; have h_ : ((ji11) : Int) ≤ (l3.length : Int) := of_decide_eq_true (by first | (with_reducible assumption) | assumption); omega)] <;> rfl) | (simp only [hji11]; rfl) | rfl | (simp only [List.length_drop, List.length_take]; rfl)) ?_; (with_reducible refine (ih k (by omega) t515 a1 a2 _ _ (l3.take ((ji11) : Int).toNat) t517 t518 _ ?side1 ?side2 A14.out).mono ?_); (case side1 => repeat (first | exact HR516.out | (with_reducible refine Kd.C_alloc ?_ _) | (with_reducible refine Kd.C_drewN ?_ _) | (with_reducible refine Kd.C_drew ?_))); (case side2 => exact HC516.out); rintro e w18 ⟨rfl, hb⟩; refine ⟨_, rfl, ?_⟩; have n0_ := Aside0.mk (below_step (by repeat (first | (with_reducible first | exact HB.out | apply below_alloc | apply pw_below_drewN | apply below_drew1) | exact HB.out)) hb); clear HB; have HB := n0_; clear n0_; (try clear hb); (try clear hb2); (try clear hk); (try clear hi); have p519 : 0 ≤ ((ji11) : Int) := of_decide_eq_true (by first | (with_reducible assumption) | assumption); have q519 : (ji11) < (l3.length : Int) := of_decide_eq_true (by first | (with_reducible assumption) | assumption); obtain ⟨ad519, e519, hx519_0⟩ := Kd.at_string HR3.out (ji11) p519 q519; cases e519; replace hx519_0 := (HB.out.cell (World.block_lt_of_cell? w _ hx519_0)).trans hx519_0; replace p519 := eq_true p519; replace q519 := eq_true q519) | ((with_reducible refine gate_callee (f := 35) rfl ?_); refine goesL_ (some 47) rfl rfl Tryd.func35 (by kernel_rfl) rfl #[.string t517, .string (rdOf ByteArray.empty l3 (ji11))] rfl (by (try simp only [List.map_toArray, List.map_cons, List.map_nil]); first | done | (simp only [hji11]; rfl) | rfl | (simp only [List.length_drop, List.length_take]; rfl)) ?_; (with_reducible refine (aircheckref02_Node.calls k t517 (rdOf ByteArray.empty l3 (ji11)) t520 _ A16.out).mono ?_); rintro e w19 ⟨rfl, hb⟩; refine ⟨_, rfl, ?_⟩; have n0_ := Aside0.mk (below_step (by repeat (first | (with_reducible first | exact HB.out | apply below_alloc | apply pw_below_drewN | apply below_drew1) | exact HB.out)) hb); clear HB; have HB := n0_; clear n0_; (try clear hb); (try clear hb2); (try clear hk); (try clear hi)))
       go_ret2
       exact ⟨by first | rfl | (simp [errW_none, errW_some] <;> rfl) | (simp only [← hji11]; first | rfl | (simp [errW_none, errW_some] <;> rfl)) | (simp [*, errW_none, errW_some] <;> rfl), by repeat (first | (with_reducible first | exact HB.out | apply below_alloc | apply pw_below_drewN | apply below_drew1) | exact HB.out)⟩
      ·rw [if_neg c15] at H
       exact absurd H (by simp)
     ·rw [if_neg c13] at H
      exact absurd H (by simp)
    ·rw [if_neg c12] at H
     exact absurd H (by simp)
   ·rw [if_neg c10] at H
    have c10b0 : decide (a1 < t515) = false := decide_eq_false c10
    clear c10
    obtain ⟨ji20, hji20⟩ : ∃ j_ : Int, (wrap64 ((l3.length : Int) - 1)) = j_ := ⟨_, rfl⟩
    replace H : (if 0 ≤ (ji20) then (if (ji20) ≤ (l3.length : Int) then ((aircheckref02_value.f k (wrap64 (a0 - t515)) (wrap64 (a1 - t515)) a2 (l3.take ((ji20) : Int).toNat)).bind fun bt522 => (if (ji20) < (l3.length : Int) then ((aircheckref02_Node.f k (rdOf ByteArray.empty l3 (ji20)) bt522.1).bind fun t525 => (some (t525, bt522.2))) else (none))) else (none)) else (none)) = some (r1, r2) := by first | (rw [hji20] at H; exact H) | (simp only [hji20] at H ⊢; exact H)
    (try rw [hji20] at c8b0)
    (try rw [hji20] at A9)
    have hji20w : (IntKind.i64.wrap ((l3.length : Int) - 1)) = ji20 := (i64_w _).trans hji20
    by_cases c21 : 0 ≤ (ji20)
    ·rw [if_pos c21] at H
     have c21b0 := eq_true c21
     have c21b1 : decide (0 ≤ (ji20)) = true := decide_eq_true c21
     clear c21
     by_cases c22 : (ji20) ≤ (l3.length : Int)
     ·rw [if_pos c22] at H
      have c22b0 := eq_true c22
      have c22b1 : decide ((ji20) ≤ (l3.length : Int)) = true := decide_eq_true c22
      clear c22
      replace H := Option.bind_eq_some_iff.mp H
      obtain ⟨⟨t522, t523⟩, A230, H⟩ := H
      replace H : (if (ji20) < (l3.length : Int) then ((aircheckref02_Node.f k (rdOf ByteArray.empty l3 (ji20)) t522).bind fun t525 => (some (t525, t523))) else (none)) = some (r1, r2) := H
      have A23 := Aside0.mk A230
      clear A230
      by_cases c24 : (ji20) < (l3.length : Int)
      ·rw [if_pos c24] at H
       have c24b0 : decide ((ji20) < (l3.length : Int)) = true := decide_eq_true c24
       clear c24
       replace H := Option.bind_eq_some_iff.mp H
       obtain ⟨t525, A250, H⟩ := H
       replace H : (some (t525, t523)) = some (r1, r2) := H
       have A25 := Aside0.mk A250
       clear A250
       simp only [Option.some.injEq, Prod.mk.injEq] at H
       obtain ⟨rfl, rfl⟩ := H
       go_enter Tryd.func50, Tryd.ntmps50
       go_wp2_with (first | ((with_reducible refine gate_callee (f := 42) rfl ?_); refine goesL_ (some 28) rfl rfl Tryd.func42 (by kernel_rfl) rfl #[.int .i64 a0] rfl (by (try simp only [List.map_toArray, List.map_cons, List.map_nil]); first | done | rfl | (simp only [List.length_drop, List.length_take]; rfl)) ?_; (with_reducible refine (aircheckref02_Left.calls k a0 t515 _ A9.out).mono ?_); rintro e w' ⟨rfl, ⟨nd, rfl⟩⟩; refine ⟨_, rfl, ?_⟩; obtain ⟨i026, hi026, _, hsz26, _⟩ := info_parts info9; obtain ⟨hcut26, hA26, hC26⟩ := print_take_of (P := Tryd.prog) Value.string (⟨#[]⟩ : ByteArray) 22 9 .i64 Tryd.underlying22 hi026 hsz26 A3 c3 l3 (ji20) (of_decide_eq_true (by first | (with_reducible assumption) | assumption)) (of_decide_eq_true (by first | (with_reducible assumption) | assumption)) HC3.out; have HR521 := Aside0.mk (Kd.C_of_reads (h1 := fun _ => rfl) (hA26 _ (Kd.reads_of_C HR3.out))); have HC521 := Aside0.mk hC26; clear hA26 hC26 hi026 hsz26) | ((with_reducible refine gate_callee (f := 50) rfl ?_); refine goesL_ (some 60) rfl rfl Tryd.func50 (by kernel_rfl) rfl #[.int .i64 (wrap64 (a0 - t515)), .int .i64 (wrap64 (a1 - t515)), .string a2, .slice A3 (l3.take ((ji20) : Int).toNat).length c3] rfl (by (try simp only [List.map_toArray, List.map_cons, List.map_nil]); first | done | (rw [show (l3.take ((ji20) : Int).toNat).length = (ji20).toNat from (by rw [List.length_take]; have h_ : ((ji20) : Int) ≤ (l3.length : Int) := of_decide_eq_true (by first | (with_reducible assumption) | assumption); omega)] <;> rfl) | (simp only [hji20]; rfl) | rfl | (simp only [List.length_drop, List.length_take]; rfl)) ?_; (with_reducible refine (ih k (by omega) (wrap64 (a0 - t515)) (wrap64 (a1 - t515)) a2 _ _ (l3.take ((ji20) : Int).toNat) t522 t523 _ ?side1 ?side2 A23.out).mono ?_); (case side1 => repeat (first | exact HR521.out | (with_reducible refine Kd.C_alloc ?_ _) | (with_reducible refine Kd.C_drewN ?_ _) | (with_reducible refine Kd.C_drew ?_))); (case side2 => exact HC521.out); rintro e w27 ⟨rfl, hb⟩; refine ⟨_, rfl, ?_⟩; have n0_ := Aside0.mk (below_step (by repeat (first | (with_reducible first | exact HB.out | apply below_alloc | apply pw_below_drewN | apply below_drew1) | exact HB.out)) hb); clear HB; have HB := n0_; clear n0_; (try clear hb); (try clear hb2); (try clear hk); (try clear hi); have p524 : 0 ≤ ((ji20) : Int) := of_decide_eq_true (by first | (with_reducible assumption) | assumption); have q524 : (ji20) < (l3.length : Int) := of_decide_eq_true (by first | (with_reducible assumption) | assumption); obtain ⟨ad524, e524, hx524_0⟩ := Kd.at_string HR3.out (ji20) p524 q524; cases e524; replace hx524_0 := (HB.out.cell (World.block_lt_of_cell? w _ hx524_0)).trans hx524_0; replace p524 := eq_true p524; replace q524 := eq_true q524) | ((with_reducible refine gate_callee (f := 35) rfl ?_); refine goesL_ (some 68) rfl rfl Tryd.func35 (by kernel_rfl) rfl #[.string (rdOf ByteArray.empty l3 (ji20)), .string t522] rfl (by (try simp only [List.map_toArray, List.map_cons, List.map_nil]); first | done | (simp only [hji20]; rfl) | rfl | (simp only [List.length_drop, List.length_take]; rfl)) ?_; (with_reducible refine (aircheckref02_Node.calls k (rdOf ByteArray.empty l3 (ji20)) t522 t525 _ A25.out).mono ?_); rintro e w28 ⟨rfl, hb⟩; refine ⟨_, rfl, ?_⟩; have n0_ := Aside0.mk (below_step (by repeat (first | (with_reducible first | exact HB.out | apply below_alloc | apply pw_below_drewN | apply below_drew1) | exact HB.out)) hb); clear HB; have HB := n0_; clear n0_; (try clear hb); (try clear hb2); (try clear hk); (try clear hi)))
       go_ret2
       exact ⟨by first | rfl | (simp [errW_none, errW_some] <;> rfl) | (simp only [← hji20]; first | rfl | (simp [errW_none, errW_some] <;> rfl)) | (simp [*, errW_none, errW_some] <;> rfl), by repeat (first | (with_reducible first | exact HB.out | apply below_alloc | apply pw_below_drewN | apply below_drew1) | exact HB.out)⟩
      ·rw [if_neg c24] at H
       exact absurd H (by simp)
     ·rw [if_neg c22] at H
      exact absurd H (by simp)
    ·rw [if_neg c21] at H
     exact absurd H (by simp)
end Go.Proofs.YtlmlimihgohchaaDoor.PD
end
section
-- Written by a program of this session out of the translation's print; not trusted: checked by the kernel.
namespace Go.Proofs.YtlmlimihgohchaaDoor.PD
open Go.Proofs.YtlmlimihgohchaaDoor.Ext
attribute [local go_sem] u32_signed u32_max
open Go.RowKit Go.Proofs.YtlmlimihgohchaaDoorW.PrintWords Go.Proofs.YtlmlimihgohchaaDoorW.PrintLast Go.Proofs.YtlmlimihgohchaaDoorW.PrintMore
attribute [local go_sem] max2_int min2_int max_two min_two max_three min_three max_four min_four   -- for this text's walks alone
set_option linter.unusedVariables false
set_option linter.unusedSimpArgs false
/-! ### aircheckref02_Verify: function 22 -/
def aircheckref02_Verify.f (k : Nat) (a0 : ByteArray) (a1 : Int) (a2 : Int) (a3 : ByteArray) (l4 : List ByteArray) : Option (Bool) := (aircheckref02_Digests.f k l4).bind fun t526 => (if a2 < 0 then (some false) else (if a2 ≥ a1 then (some false) else (if t526 = true then ((aircheckref02_value.f k a1 a2 a3 l4).bind fun bt527 => (if bt527.2 = true then (some (bt527.1.toList == a0.toList)) else (some false))) else (some false))))
set_option maxHeartbeats 8000000 in
set_option maxRecDepth 100000 in
theorem aircheckref02_Verify.calls (k : Nat) (a0 : ByteArray) (a1 : Int) (a2 : Int) (a3 : ByteArray) (A4 : Option Addr) (c4 : Nat) (l4 : List ByteArray) (r : Bool) (w : World) (hr4 : Kd.C Kd.string w A4 l4.length l4) (hc4 : l4.length ≤ c4) (h : aircheckref02_Verify.f k a0 a1 a2 a3 l4 = some r) :
  Calls Tryd.prog 22 #[.string a0, .int .i64 a1, .int .i64 a2, .string a3, .slice A4 l4.length c4] w fun e w' => e = .returned (.bool r) ∧ Below w.heap.size w w' := by
 have HR4 := Aside0.mk hr4
 have HC4 := Aside0.mk hc4
 clear hr4 hc4
 have HB := Aside0.mk (Below.refl w.heap.size w)
 have H : ((aircheckref02_Digests.f k l4).bind fun t526 => (if a2 < 0 then (some false) else (if a2 ≥ a1 then (some false) else (if t526 = true then ((aircheckref02_value.f k a1 a2 a3 l4).bind fun bt527 => (if bt527.2 = true then (some (bt527.1.toList == a0.toList)) else (some false))) else (some false))))) = some r := h
 clear h
 replace H := Option.bind_eq_some_iff.mp H
 obtain ⟨t526, A60, H⟩ := H
 replace H : (if a2 < 0 then (some false) else (if a2 ≥ a1 then (some false) else (if t526 = true then ((aircheckref02_value.f k a1 a2 a3 l4).bind fun bt527 => (if bt527.2 = true then (some (bt527.1.toList == a0.toList)) else (some false))) else (some false)))) = some r := H
 have A6 := Aside0.mk A60
 clear A60
 by_cases c7 : a2 < 0
 ·rw [if_pos c7] at H
  have c7b0 : decide (a2 < 0) = true := decide_eq_true c7
  clear c7
  obtain rfl := Option.some.inj H
  go_enter Tryd.func22, Tryd.ntmps22
  go_wp2_with (first | ((with_reducible refine gate_callee (f := 49) rfl ?_); refine goesL_ (some 15) rfl rfl Tryd.func49 (by kernel_rfl) rfl #[.slice A4 l4.length c4] rfl (by (try simp only [List.map_toArray, List.map_cons, List.map_nil]); first | done | rfl | (simp only [List.length_drop, List.length_take]; rfl)) ?_; (with_reducible refine (aircheckref02_Digests.calls k _ _ l4 t526 _ ?side1 ?side2 A6.out).mono ?_); (case side1 => repeat (first | exact HR4.out | (with_reducible refine Kd.C_alloc ?_ _) | (with_reducible refine Kd.C_drewN ?_ _) | (with_reducible refine Kd.C_drew ?_))); (case side2 => exact HC4.out); rintro e w' ⟨rfl, ⟨nd, rfl⟩⟩; refine ⟨_, rfl, ?_⟩))
  go_ret
  exact ⟨by first | rfl | (simp [errW_none, errW_some] <;> rfl) | (simp [*, errW_none, errW_some] <;> rfl), by repeat (first | (with_reducible first | exact HB.out | apply below_alloc | apply pw_below_drewN | apply below_drew1) | exact HB.out)⟩
 ·rw [if_neg c7] at H
  have c7b0 : decide (a2 < 0) = false := decide_eq_false c7
  clear c7
  by_cases c8 : a2 ≥ a1
  ·rw [if_pos c8] at H
   have c8b0 : decide (a1 ≤ a2) = true := decide_eq_true c8
   clear c8
   obtain rfl := Option.some.inj H
   go_enter Tryd.func22, Tryd.ntmps22
   go_wp2_with (first | ((with_reducible refine gate_callee (f := 49) rfl ?_); refine goesL_ (some 15) rfl rfl Tryd.func49 (by kernel_rfl) rfl #[.slice A4 l4.length c4] rfl (by (try simp only [List.map_toArray, List.map_cons, List.map_nil]); first | done | rfl | (simp only [List.length_drop, List.length_take]; rfl)) ?_; (with_reducible refine (aircheckref02_Digests.calls k _ _ l4 t526 _ ?side1 ?side2 A6.out).mono ?_); (case side1 => repeat (first | exact HR4.out | (with_reducible refine Kd.C_alloc ?_ _) | (with_reducible refine Kd.C_drewN ?_ _) | (with_reducible refine Kd.C_drew ?_))); (case side2 => exact HC4.out); rintro e w' ⟨rfl, ⟨nd, rfl⟩⟩; refine ⟨_, rfl, ?_⟩))
   go_ret
   exact ⟨by first | rfl | (simp [errW_none, errW_some] <;> rfl) | (simp [*, errW_none, errW_some] <;> rfl), by repeat (first | (with_reducible first | exact HB.out | apply below_alloc | apply pw_below_drewN | apply below_drew1) | exact HB.out)⟩
  ·rw [if_neg c8] at H
   have c8b0 : decide (a1 ≤ a2) = false := decide_eq_false c8
   clear c8
   by_cases c9 : t526 = true
   ·subst c9
    have H1 : ((aircheckref02_value.f k a1 a2 a3 l4).bind fun bt527 => (if bt527.2 = true then (some (bt527.1.toList == a0.toList)) else (some false))) = some r := by rw [if_pos rfl] at H; exact H
    clear H
    have H := H1
    clear H1
    replace H := Option.bind_eq_some_iff.mp H
    obtain ⟨⟨t527, t528⟩, A100, H⟩ := H
    replace H : (if t528 = true then (some (t527.toList == a0.toList)) else (some false)) = some r := H
    have A10 := Aside0.mk A100
    clear A100
    by_cases c11 : t528 = true
    ·subst c11
     have H1 : (some (t527.toList == a0.toList)) = some r := by rw [if_pos rfl] at H; exact H
     clear H
     have H := H1
     clear H1
     obtain rfl := Option.some.inj H
     go_enter Tryd.func22, Tryd.ntmps22
     go_wp2_with (first | ((with_reducible refine gate_callee (f := 49) rfl ?_); refine goesL_ (some 15) rfl rfl Tryd.func49 (by kernel_rfl) rfl #[.slice A4 l4.length c4] rfl (by (try simp only [List.map_toArray, List.map_cons, List.map_nil]); first | done | rfl | (simp only [List.length_drop, List.length_take]; rfl)) ?_; (with_reducible refine (aircheckref02_Digests.calls k _ _ l4 true _ ?side1 ?side2 A6.out).mono ?_); (case side1 => repeat (first | exact HR4.out | (with_reducible refine Kd.C_alloc ?_ _) | (with_reducible refine Kd.C_drewN ?_ _) | (with_reducible refine Kd.C_drew ?_))); (case side2 => exact HC4.out); rintro e w' ⟨rfl, ⟨nd, rfl⟩⟩; refine ⟨_, rfl, ?_⟩) | ((with_reducible refine gate_callee (f := 50) rfl ?_); refine goesL_ (some 32) rfl rfl Tryd.func50 (by kernel_rfl) rfl #[.int .i64 a1, .int .i64 a2, .string a3, .slice A4 l4.length c4] rfl (by (try simp only [List.map_toArray, List.map_cons, List.map_nil]); first | done | rfl | (simp only [List.length_drop, List.length_take]; rfl)) ?_; (with_reducible refine (aircheckref02_value.calls k a1 a2 a3 _ _ l4 t527 true _ ?side1 ?side2 A10.out).mono ?_); (case side1 => repeat (first | exact HR4.out | (with_reducible refine Kd.C_alloc ?_ _) | (with_reducible refine Kd.C_drewN ?_ _) | (with_reducible refine Kd.C_drew ?_))); (case side2 => exact HC4.out); rintro e w12 ⟨rfl, hb⟩; refine ⟨_, rfl, ?_⟩; have n0_ := Aside0.mk (below_step (by repeat (first | (with_reducible first | exact HB.out | apply below_alloc | apply pw_below_drewN | apply below_drew1) | exact HB.out)) hb); clear HB; have HB := n0_; clear n0_; (try clear hb); (try clear hb2); (try clear hk); (try clear hi)))
     go_ret
     exact ⟨by first | rfl | (simp [errW_none, errW_some] <;> rfl) | (simp [*, errW_none, errW_some] <;> rfl), by repeat (first | (with_reducible first | exact HB.out | apply below_alloc | apply pw_below_drewN | apply below_drew1) | exact HB.out)⟩
    ·replace c11 := Bool.eq_false_iff.mpr c11
     subst c11
     have H1 : (some false) = some r := by rw [if_neg (show ¬ (false = true) by decide)] at H; exact H
     clear H
     have H := H1
     clear H1
     obtain rfl := Option.some.inj H
     go_enter Tryd.func22, Tryd.ntmps22
     go_wp2_with (first | ((with_reducible refine gate_callee (f := 49) rfl ?_); refine goesL_ (some 15) rfl rfl Tryd.func49 (by kernel_rfl) rfl #[.slice A4 l4.length c4] rfl (by (try simp only [List.map_toArray, List.map_cons, List.map_nil]); first | done | rfl | (simp only [List.length_drop, List.length_take]; rfl)) ?_; (with_reducible refine (aircheckref02_Digests.calls k _ _ l4 true _ ?side1 ?side2 A6.out).mono ?_); (case side1 => repeat (first | exact HR4.out | (with_reducible refine Kd.C_alloc ?_ _) | (with_reducible refine Kd.C_drewN ?_ _) | (with_reducible refine Kd.C_drew ?_))); (case side2 => exact HC4.out); rintro e w' ⟨rfl, ⟨nd, rfl⟩⟩; refine ⟨_, rfl, ?_⟩) | ((with_reducible refine gate_callee (f := 50) rfl ?_); refine goesL_ (some 32) rfl rfl Tryd.func50 (by kernel_rfl) rfl #[.int .i64 a1, .int .i64 a2, .string a3, .slice A4 l4.length c4] rfl (by (try simp only [List.map_toArray, List.map_cons, List.map_nil]); first | done | rfl | (simp only [List.length_drop, List.length_take]; rfl)) ?_; (with_reducible refine (aircheckref02_value.calls k a1 a2 a3 _ _ l4 t527 false _ ?side1 ?side2 A10.out).mono ?_); (case side1 => repeat (first | exact HR4.out | (with_reducible refine Kd.C_alloc ?_ _) | (with_reducible refine Kd.C_drewN ?_ _) | (with_reducible refine Kd.C_drew ?_))); (case side2 => exact HC4.out); rintro e w13 ⟨rfl, hb⟩; refine ⟨_, rfl, ?_⟩; have n0_ := Aside0.mk (below_step (by repeat (first | (with_reducible first | exact HB.out | apply below_alloc | apply pw_below_drewN | apply below_drew1) | exact HB.out)) hb); clear HB; have HB := n0_; clear n0_; (try clear hb); (try clear hb2); (try clear hk); (try clear hi)))
     go_ret
     exact ⟨by first | rfl | (simp [errW_none, errW_some] <;> rfl) | (simp [*, errW_none, errW_some] <;> rfl), by repeat (first | (with_reducible first | exact HB.out | apply below_alloc | apply pw_below_drewN | apply below_drew1) | exact HB.out)⟩
   ·replace c9 := Bool.eq_false_iff.mpr c9
    subst c9
    have H1 : (some false) = some r := by rw [if_neg (show ¬ (false = true) by decide)] at H; exact H
    clear H
    have H := H1
    clear H1
    obtain rfl := Option.some.inj H
    go_enter Tryd.func22, Tryd.ntmps22
    go_wp2_with (first | ((with_reducible refine gate_callee (f := 49) rfl ?_); refine goesL_ (some 15) rfl rfl Tryd.func49 (by kernel_rfl) rfl #[.slice A4 l4.length c4] rfl (by (try simp only [List.map_toArray, List.map_cons, List.map_nil]); first | done | rfl | (simp only [List.length_drop, List.length_take]; rfl)) ?_; (with_reducible refine (aircheckref02_Digests.calls k _ _ l4 false _ ?side1 ?side2 A6.out).mono ?_); (case side1 => repeat (first | exact HR4.out | (with_reducible refine Kd.C_alloc ?_ _) | (with_reducible refine Kd.C_drewN ?_ _) | (with_reducible refine Kd.C_drew ?_))); (case side2 => exact HC4.out); rintro e w' ⟨rfl, ⟨nd, rfl⟩⟩; refine ⟨_, rfl, ?_⟩))
    go_ret
    exact ⟨by first | rfl | (simp [errW_none, errW_some] <;> rfl) | (simp [*, errW_none, errW_some] <;> rfl), by repeat (first | (with_reducible first | exact HB.out | apply below_alloc | apply pw_below_drewN | apply below_drew1) | exact HB.out)⟩
end Go.Proofs.YtlmlimihgohchaaDoor.PD
end
section
-- Written by a program of this session out of the translation's print; not trusted: checked by the kernel.
namespace Go.Proofs.YtlmlimihgohchaaDoor.PD
open Go.Proofs.YtlmlimihgohchaaDoor.Ext
attribute [local go_sem] u32_signed u32_max
open Go.RowKit Go.Proofs.YtlmlimihgohchaaDoorW.PrintWords Go.Proofs.YtlmlimihgohchaaDoorW.PrintLast Go.Proofs.YtlmlimihgohchaaDoorW.PrintMore
attribute [local go_sem] max2_int min2_int max_two min_two max_three min_three max_four min_four   -- for this text's walks alone
set_option linter.unusedVariables false
set_option linter.unusedSimpArgs false
/-! ### aircheckref02_both: function 52 -/
def aircheckref02_both.f : Nat → ByteArray → Int → Int → List ByteArray → Bool → Option (ByteArray × ByteArray × Bool)
 | 0, _, _, _, _, _ => none
 | k + 1, a0, a1, a2, l3, a4 => if a1 = a2 then (if a4 = true then (some (a0, a0, decide ((wrap64 ((l3.length : Int) - 1)) < 0))) else (if (wrap64 ((l3.length : Int) - 1)) = 0 then (if 0 < (l3.length : Int) then (some (rdOf ByteArray.empty l3 0, rdOf ByteArray.empty l3 0, true)) else (none)) else (some ((⟨#[]⟩ : ByteArray), (⟨#[]⟩ : ByteArray), false)))) else (if (wrap64 ((l3.length : Int) - 1)) < 0 then (some ((⟨#[]⟩ : ByteArray), (⟨#[]⟩ : ByteArray), false)) else ((aircheckref02_Left.f k a2).bind fun t531 => (if a1 ≤ t531 then (if 0 ≤ (wrap64 ((l3.length : Int) - 1)) then (if (wrap64 ((l3.length : Int) - 1)) ≤ (l3.length : Int) then ((aircheckref02_both.f k a0 a1 t531 (l3.take ((wrap64 ((l3.length : Int) - 1)) : Int).toNat) a4).bind fun bt533 => (if (wrap64 ((l3.length : Int) - 1)) < (l3.length : Int) then ((aircheckref02_Node.f k bt533.2.1 (rdOf ByteArray.empty l3 (wrap64 ((l3.length : Int) - 1)))).bind fun t537 => (some (bt533.1, t537, bt533.2.2))) else (none))) else (none)) else (none)) else (if 0 ≤ (wrap64 ((l3.length : Int) - 1)) then (if (wrap64 ((l3.length : Int) - 1)) ≤ (l3.length : Int) then ((aircheckref02_both.f k a0 (wrap64 (a1 - t531)) (wrap64 (a2 - t531)) (l3.take ((wrap64 ((l3.length : Int) - 1)) : Int).toNat) false).bind fun bt539 => (if (wrap64 ((l3.length : Int) - 1)) < (l3.length : Int) then ((aircheckref02_Node.f k (rdOf ByteArray.empty l3 (wrap64 ((l3.length : Int) - 1))) bt539.1).bind fun t543 => ((aircheckref02_Node.f k (rdOf ByteArray.empty l3 (wrap64 ((l3.length : Int) - 1))) bt539.2.1).bind fun t545 => (some (t543, t545, bt539.2.2)))) else (none))) else (none)) else (none)))))
def aircheckref02_both.T7 : Bool × List (List Nat × List Nat) := (true, [([], []), ([0], [0]), ([1], [1]), ([], []), ([3], [3]), ([4], [4]), ([2, 0, 1, 2], [2]), ([5, 6, 0, 1, 2, 3, 4, 5, 6], [5]), ([7, 0, 1, 2, 3, 4, 5, 6, 7], [])])
def aircheckref02_both.B7 : List Nat := [0, 1, 3, 0, 8, 24, 7, 127, 255]
theorem aircheckref02_both.tab7 : rtab .any (opsOf Tryd.f52 7) = aircheckref02_both.T7 := by kernel_rfl
theorem aircheckref02_both.bits7 : waitsOk aircheckref02_both.T7.2 aircheckref02_both.B7 = true := by kernel_rfl
def aircheckref02_both.T15 : Bool × List (List Nat × List Nat) := (true, [([], []), ([], []), ([0, 1], [0, 1]), ([2], [2]), ([], []), ([3, 4], [3, 4]), ([], []), ([], []), ([6, 7], [6, 7]), ([8], [8]), ([], []), ([9, 10, 5], [9, 10]), ([], []), ([5, 11, 0, 1, 2, 3, 4, 5], [5]), ([11, 13, 0, 1, 2, 3, 4, 5, 6, 7, 8, 9, 10, 11, 13], [11]), ([12, 14, 0, 1, 2, 3, 4, 5, 6, 7, 8, 9, 10, 11, 12, 13, 14], [12])])
def aircheckref02_both.B15 : List Nat := [0, 0, 3, 7, 0, 31, 0, 0, 192, 448, 0, 2047, 0, 4095, 12287, 32767]
theorem aircheckref02_both.tab15 : rtab .any (opsOf Tryd.f52 15) = aircheckref02_both.T15 := by kernel_rfl
theorem aircheckref02_both.bits15 : waitsOk aircheckref02_both.T15.2 aircheckref02_both.B15 = true := by kernel_rfl
set_option maxHeartbeats 8000000 in
set_option maxRecDepth 100000 in
theorem aircheckref02_both.calls (k : Nat) : ∀ (a0 : ByteArray) (a1 : Int) (a2 : Int) (A3 : Option Addr) (c3 : Nat) (l3 : List ByteArray) (a4 : Bool) (r1 : ByteArray) (r2 : ByteArray) (r3 : Bool) (w : World) (hr3 : Kd.C Kd.string w A3 l3.length l3) (hc3 : l3.length ≤ c3) (h : aircheckref02_both.f k a0 a1 a2 l3 a4 = some (r1, r2, r3)),
  Calls Tryd.prog 52 #[.string a0, .int .i64 a1, .int .i64 a2, .slice A3 l3.length c3, .bool a4] w fun e w' => e = .returned (.tuple #[.string r1, .string r2, .bool r3]) ∧ Below w.heap.size w w' := by
 induction k using Nat.strongRecOn with
 | _ k ih =>
 intro a0 a1 a2 A3 c3 l3 a4 r1 r2 r3 w hr3 hc3 h
 cases k with
 | zero => exact absurd h (by simp [aircheckref02_both.f])
 | succ k =>
 simp only [aircheckref02_both.f] at h
 have HR3 := Aside0.mk hr3
 have HC3 := Aside0.mk hc3
 clear hr3 hc3
 have HB := Aside0.mk (Below.refl w.heap.size w)
 have H : (if a1 = a2 then (if a4 = true then (some (a0, a0, decide ((wrap64 ((l3.length : Int) - 1)) < 0))) else (if (wrap64 ((l3.length : Int) - 1)) = 0 then (if 0 < (l3.length : Int) then (some (rdOf ByteArray.empty l3 0, rdOf ByteArray.empty l3 0, true)) else (none)) else (some ((⟨#[]⟩ : ByteArray), (⟨#[]⟩ : ByteArray), false)))) else (if (wrap64 ((l3.length : Int) - 1)) < 0 then (some ((⟨#[]⟩ : ByteArray), (⟨#[]⟩ : ByteArray), false)) else ((aircheckref02_Left.f k a2).bind fun t531 => (if a1 ≤ t531 then (if 0 ≤ (wrap64 ((l3.length : Int) - 1)) then (if (wrap64 ((l3.length : Int) - 1)) ≤ (l3.length : Int) then ((aircheckref02_both.f k a0 a1 t531 (l3.take ((wrap64 ((l3.length : Int) - 1)) : Int).toNat) a4).bind fun bt533 => (if (wrap64 ((l3.length : Int) - 1)) < (l3.length : Int) then ((aircheckref02_Node.f k bt533.2.1 (rdOf ByteArray.empty l3 (wrap64 ((l3.length : Int) - 1)))).bind fun t537 => (some (bt533.1, t537, bt533.2.2))) else (none))) else (none)) else (none)) else (if 0 ≤ (wrap64 ((l3.length : Int) - 1)) then (if (wrap64 ((l3.length : Int) - 1)) ≤ (l3.length : Int) then ((aircheckref02_both.f k a0 (wrap64 (a1 - t531)) (wrap64 (a2 - t531)) (l3.take ((wrap64 ((l3.length : Int) - 1)) : Int).toNat) false).bind fun bt539 => (if (wrap64 ((l3.length : Int) - 1)) < (l3.length : Int) then ((aircheckref02_Node.f k (rdOf ByteArray.empty l3 (wrap64 ((l3.length : Int) - 1))) bt539.1).bind fun t543 => ((aircheckref02_Node.f k (rdOf ByteArray.empty l3 (wrap64 ((l3.length : Int) - 1))) bt539.2.1).bind fun t545 => (some (t543, t545, bt539.2.2)))) else (none))) else (none)) else (none)))))) = some (r1, r2, r3) := h
 clear h
 by_cases c6 : a1 = a2
 ·rw [if_pos c6] at H
  have c6b0 : (a1 == a2) = true := beq_iff_eq.mpr c6
  have c6b1 : (a1 != a2) = false := bne_eq_false_iff_eq.mpr c6
  clear c6
  by_cases c7 : a4 = true
  ·subst c7
   have H1 : (some (a0, a0, decide ((wrap64 ((l3.length : Int) - 1)) < 0))) = some (r1, r2, r3) := by rw [if_pos rfl] at H; exact H
   clear H
   have H := H1
   clear H1
   simp only [Option.some.injEq, Prod.mk.injEq] at H
   obtain ⟨rfl, rfl, rfl⟩ := H
   go_enter Tryd.func52, Tryd.ntmps52
   go_wp2
   go_ret3
   exact ⟨by first | rfl | (simp [errW_none, errW_some] <;> rfl) | (simp [*, errW_none, errW_some] <;> rfl), by repeat (first | (with_reducible first | exact HB.out | apply below_alloc | apply pw_below_drewN | apply below_drew1) | exact HB.out)⟩
  ·replace c7 := Bool.eq_false_iff.mpr c7
   subst c7
   have H1 : (if (wrap64 ((l3.length : Int) - 1)) = 0 then (if 0 < (l3.length : Int) then (some (rdOf ByteArray.empty l3 0, rdOf ByteArray.empty l3 0, true)) else (none)) else (some ((⟨#[]⟩ : ByteArray), (⟨#[]⟩ : ByteArray), false))) = some (r1, r2, r3) := by rw [if_neg (show ¬ (false = true) by decide)] at H; exact H
   clear H
   have H := H1
   clear H1
   by_cases c8 : (wrap64 ((l3.length : Int) - 1)) = 0
   ·rw [if_pos c8] at H
    have c8b0 : ((wrap64 ((l3.length : Int) - 1)) == 0) = true := beq_iff_eq.mpr c8
    have c8b1 : ((wrap64 ((l3.length : Int) - 1)) != 0) = false := bne_eq_false_iff_eq.mpr c8
    clear c8
    by_cases c9 : 0 < (l3.length : Int)
    ·rw [if_pos c9] at H
     have c9b0 : decide (0 < (l3.length : Int)) = true := decide_eq_true c9
     have c9b1 : decide (0 < l3.length) = true := decide_eq_true (by omega)
     clear c9
     simp only [Option.some.injEq, Prod.mk.injEq] at H
     obtain ⟨rfl, rfl, rfl⟩ := H
     go_enter Tryd.func52, Tryd.ntmps52
     try go_wp2
     have n0_ := Aside0.mk (below_drew1 HB.out)
     clear HB
     have HB := n0_
     clear n0_
     have p529 : 0 ≤ (0 : Int) := (by omega)
     have q529 : 0 < (l3.length : Int) := of_decide_eq_true (by first | (with_reducible assumption) | assumption)
     obtain ⟨ad529, e529, hx529_0⟩ := Kd.at_string HR3.out 0 p529 q529
     have hw529_0 := hx529_0
     (try rw [show ((0 : Int)).toNat = 0 from rfl] at hw529_0)
     (try rw [show 0 * 1 = 0 from rfl] at hw529_0)
     (try rw [Addr.add_zero'] at hw529_0)
     cases e529
     have qi529 : (0 < l3.length) = True := eq_true (by omega)
     (try rw [show ((0 : Int)).toNat = 0 from rfl] at hx529_0)
     (try rw [Addr.add_zero'] at hx529_0)
     replace hx529_0 := (HB.out.cell (World.block_lt_of_cell? w _ hx529_0)).trans hx529_0
     replace p529 := eq_true p529
     replace q529 := eq_true q529
     have p530 : 0 ≤ (0 : Int) := (by omega)
     have q530 : 0 < (l3.length : Int) := of_decide_eq_true (by first | (with_reducible assumption) | assumption)
     obtain ⟨ad530, e530, hx530_0⟩ := Kd.at_string HR3.out 0 p530 q530
     have hw530_0 := hx530_0
     (try rw [show ((0 : Int)).toNat = 0 from rfl] at hw530_0)
     (try rw [show 0 * 1 = 0 from rfl] at hw530_0)
     (try rw [Addr.add_zero'] at hw530_0)
     obtain rfl : ad529 = ad530 := (by injection e530)
     have qi530 : (0 < l3.length) = True := eq_true (by omega)
     (try rw [show ((0 : Int)).toNat = 0 from rfl] at hx530_0)
     (try rw [Addr.add_zero'] at hx530_0)
     replace hx530_0 := (HB.out.cell (World.block_lt_of_cell? w _ hx530_0)).trans hx530_0
     replace p530 := eq_true p530
     replace q530 := eq_true q530
     refine start_ (n := 9) (S := fun w' => w'.cell? ad529 = some (.string (rdOf ByteArray.empty l3 0)) ∧ w'.cell? ad529 = some (.string (rdOf ByteArray.empty l3 0))) (ds := []) #[false, false, false, false, false, false, false, false, false] (by kernel_rfl) rfl rfl ⟨((HB.out.cell (World.block_lt_of_cell? w _ hw529_0)).trans hw529_0), ((HB.out.cell (World.block_lt_of_cell? w _ hw530_0)).trans hw530_0)⟩ (fun hHeld => ?_); refine with_tabW aircheckref02_both.tab7 aircheckref02_both.bits7 (fun HT_ HW_ => ?_)
     generalize w.drew = w10 at HB hx529_0 hx530_0 hHeld ⊢
     refine pure_ (i := 0) (N := some 34) (v := ?_) (a' := ?_) #[true, false, false, false, false, false, false, false, false] rfl rfl (any_of HT_.out (by kernel_rfl)) (fun _ _ _ h => h) (Or.inl ⟨by rfl, ?_⟩) ?_ ?_
     rotate_left
     ·intro w'
      go_simp
      with_reducible rfl
     rotate_left
     ·simp only [Act.put, List.setIfInBounds_toArray, List.set_cons_zero, List.set_cons_succ, i64_w, i32_w]
      rfl
     refine pure_ (i := 1) (N := some 35) (v := ?_) (a' := ?_) #[true, true, false, false, false, false, false, false, false] rfl rfl (any_of HT_.out (by kernel_rfl)) (fun _ _ _ h => h) (Or.inl ⟨by rfl, ?_⟩) ?_ ?_
     rotate_left
     ·intro w'
      go_simp
      with_reducible rfl
     rotate_left
     ·simp only [Act.put, List.setIfInBounds_toArray, List.set_cons_zero, List.set_cons_succ, i64_w, i32_w]
      rfl
     refine pure_ (i := 3) (N := some 37) (v := ?_) (a' := ?_) #[true, true, false, true, false, false, false, false, false] rfl rfl (any_of HT_.out (by kernel_rfl)) (fun _ _ _ h => h) (Or.inl ⟨by rfl, ?_⟩) ?_ ?_
     rotate_left
     ·intro w'
      go_simp
      with_reducible rfl
     rotate_left
     ·simp only [Act.put, List.setIfInBounds_toArray, List.set_cons_zero, List.set_cons_succ, i64_w, i32_w]
      rfl
     refine pure_ (i := 4) (N := some 38) (v := ?_) (a' := ?_) #[true, true, false, true, true, false, false, false, false] rfl rfl (any_of HT_.out (by kernel_rfl)) (fun _ _ _ h => h) (Or.inl ⟨by rfl, ?_⟩) ?_ ?_
     rotate_left
     ·intro w'
      go_simp
      with_reducible rfl
     rotate_left
     ·simp only [Act.put, List.setIfInBounds_toArray, List.set_cons_zero, List.set_cons_succ, i64_w, i32_w]
      rfl
     refine take_ (i := 2) (N := some 36) (v := ?_) (a' := ?_) #[true, true, true, true, true, false, false, false, false] rfl rfl (take_ofW HT_.out HW_.out (by kernel_rfl)) (fun _ _ _ h => h) (Or.inl ⟨by rfl, ?_⟩) hHeld ?_ ?_
     rotate_left
     ·rintro w' ⟨s0, s1⟩
      go_simp
      with_reducible rfl
     rotate_left
     ·simp only [Act.put, List.setIfInBounds_toArray, List.set_cons_zero, List.set_cons_succ, i64_w, i32_w]
      rfl
     refine pure_ (i := 6) (N := some 10) (v := ?_) (a' := ?_) #[true, true, true, true, true, false, true, false, false] rfl rfl (any_of HT_.out (by kernel_rfl)) (fun _ _ _ h => h) (Or.inl ⟨by rfl, ?_⟩) ?_ ?_
     rotate_left
     ·intro w'
      go_simp
      with_reducible rfl
     rotate_left
     ·simp only [Act.put, List.setIfInBounds_toArray, List.set_cons_zero, List.set_cons_succ, i64_w, i32_w]
      rfl
     refine take_ (i := 5) (N := some 39) (v := ?_) (a' := ?_) #[true, true, true, true, true, true, true, false, false] rfl rfl (take_ofW HT_.out HW_.out (by kernel_rfl)) (fun _ _ _ h => h) (Or.inl ⟨by rfl, ?_⟩) hHeld ?_ ?_
     rotate_left
     ·rintro w' ⟨s0, s1⟩
      go_simp
      with_reducible rfl
     rotate_left
     ·simp only [Act.put, List.setIfInBounds_toArray, List.set_cons_zero, List.set_cons_succ, i64_w, i32_w]
      rfl
     refine pure_ (i := 7) (N := some 11) (v := ?_) (a' := ?_) #[true, true, true, true, true, true, true, true, false] rfl rfl (any_of HT_.out (by kernel_rfl)) (fun _ _ _ h => h) (Or.inl ⟨by rfl, ?_⟩) ?_ ?_
     rotate_left
     ·intro w'
      go_simp
      with_reducible rfl
     rotate_left
     ·simp only [Act.put, List.setIfInBounds_toArray, List.set_cons_zero, List.set_cons_succ, i64_w, i32_w]
      rfl
     refine pure_ (i := 8) (N := some 12) (v := ?_) (a' := ?_) #[true, true, true, true, true, true, true, true, true] rfl rfl (any_of HT_.out (by kernel_rfl)) (fun _ _ _ h => h) (Or.inl ⟨by rfl, ?_⟩) ?_ ?_
     rotate_left
     ·intro w'
      go_simp
      with_reducible rfl
     rotate_left
     ·simp only [Act.put, List.setIfInBounds_toArray, List.set_cons_zero, List.set_cons_succ, i64_w, i32_w]
      rfl
     refine done_ (done_of HT_.out (by kernel_rfl)) ?_
     try go_wp2
     go_ret3
     exact ⟨by first | rfl | (simp [errW_none, errW_some] <;> rfl) | (simp [*, errW_none, errW_some] <;> rfl), by repeat (first | (with_reducible first | exact HB.out | apply below_alloc | apply pw_below_drewN | apply below_drew1) | exact HB.out)⟩
    ·rw [if_neg c9] at H
     exact absurd H (by simp)
   ·rw [if_neg c8] at H
    have c8b0 : ((wrap64 ((l3.length : Int) - 1)) == 0) = false := beq_eq_false_iff_ne.mpr c8
    have c8b1 : ((wrap64 ((l3.length : Int) - 1)) != 0) = true := bne_iff_ne.mpr c8
    simp only [Option.some.injEq, Prod.mk.injEq] at H
    obtain ⟨rfl, rfl, rfl⟩ := H
    go_enter Tryd.func52, Tryd.ntmps52
    go_wp2
    go_ret3
    exact ⟨by first | rfl | (simp [errW_none, errW_some] <;> rfl) | (simp [*, errW_none, errW_some] <;> rfl), by repeat (first | (with_reducible first | exact HB.out | apply below_alloc | apply pw_below_drewN | apply below_drew1) | exact HB.out)⟩
 ·rw [if_neg c6] at H
  have c6b0 : (a1 == a2) = false := beq_eq_false_iff_ne.mpr c6
  have c6b1 : (a1 != a2) = true := bne_iff_ne.mpr c6
  by_cases c11 : (wrap64 ((l3.length : Int) - 1)) < 0
  ·rw [if_pos c11] at H
   have c11b0 : decide ((wrap64 ((l3.length : Int) - 1)) < 0) = true := decide_eq_true c11
   clear c11
   simp only [Option.some.injEq, Prod.mk.injEq] at H
   obtain ⟨rfl, rfl, rfl⟩ := H
   go_enter Tryd.func52, Tryd.ntmps52
   go_wp2
   go_ret3
   exact ⟨by first | rfl | (simp [errW_none, errW_some] <;> rfl) | (simp [*, errW_none, errW_some] <;> rfl), by repeat (first | (with_reducible first | exact HB.out | apply below_alloc | apply pw_below_drewN | apply below_drew1) | exact HB.out)⟩
  ·rw [if_neg c11] at H
   have c11b0 : decide ((wrap64 ((l3.length : Int) - 1)) < 0) = false := decide_eq_false c11
   clear c11
   replace H := Option.bind_eq_some_iff.mp H
   obtain ⟨t531, A120, H⟩ := H
   replace H : (if a1 ≤ t531 then (if 0 ≤ (wrap64 ((l3.length : Int) - 1)) then (if (wrap64 ((l3.length : Int) - 1)) ≤ (l3.length : Int) then ((aircheckref02_both.f k a0 a1 t531 (l3.take ((wrap64 ((l3.length : Int) - 1)) : Int).toNat) a4).bind fun bt533 => (if (wrap64 ((l3.length : Int) - 1)) < (l3.length : Int) then ((aircheckref02_Node.f k bt533.2.1 (rdOf ByteArray.empty l3 (wrap64 ((l3.length : Int) - 1)))).bind fun t537 => (some (bt533.1, t537, bt533.2.2))) else (none))) else (none)) else (none)) else (if 0 ≤ (wrap64 ((l3.length : Int) - 1)) then (if (wrap64 ((l3.length : Int) - 1)) ≤ (l3.length : Int) then ((aircheckref02_both.f k a0 (wrap64 (a1 - t531)) (wrap64 (a2 - t531)) (l3.take ((wrap64 ((l3.length : Int) - 1)) : Int).toNat) false).bind fun bt539 => (if (wrap64 ((l3.length : Int) - 1)) < (l3.length : Int) then ((aircheckref02_Node.f k (rdOf ByteArray.empty l3 (wrap64 ((l3.length : Int) - 1))) bt539.1).bind fun t543 => ((aircheckref02_Node.f k (rdOf ByteArray.empty l3 (wrap64 ((l3.length : Int) - 1))) bt539.2.1).bind fun t545 => (some (t543, t545, bt539.2.2)))) else (none))) else (none)) else (none))) = some (r1, r2, r3) := H
   have A12 := Aside0.mk A120
   clear A120
   by_cases c13 : a1 ≤ t531
   ·rw [if_pos c13] at H
    have c13b0 : decide (a1 ≤ t531) = true := decide_eq_true c13
    clear c13
    obtain ⟨ji14, hji14⟩ : ∃ j_ : Int, (wrap64 ((l3.length : Int) - 1)) = j_ := ⟨_, rfl⟩
    replace H : (if 0 ≤ (ji14) then (if (ji14) ≤ (l3.length : Int) then ((aircheckref02_both.f k a0 a1 t531 (l3.take ((ji14) : Int).toNat) a4).bind fun bt533 => (if (ji14) < (l3.length : Int) then ((aircheckref02_Node.f k bt533.2.1 (rdOf ByteArray.empty l3 (ji14))).bind fun t537 => (some (bt533.1, t537, bt533.2.2))) else (none))) else (none)) else (none)) = some (r1, r2, r3) := by first | (rw [hji14] at H; exact H) | (simp only [hji14] at H ⊢; exact H)
    (try rw [hji14] at c11b0)
    (try rw [hji14] at A12)
    have hji14w : (IntKind.i64.wrap ((l3.length : Int) - 1)) = ji14 := (i64_w _).trans hji14
    by_cases c15 : 0 ≤ (ji14)
    ·rw [if_pos c15] at H
     have c15b0 := eq_true c15
     have c15b1 : decide (0 ≤ (ji14)) = true := decide_eq_true c15
     clear c15
     by_cases c16 : (ji14) ≤ (l3.length : Int)
     ·rw [if_pos c16] at H
      have c16b0 := eq_true c16
      have c16b1 : decide ((ji14) ≤ (l3.length : Int)) = true := decide_eq_true c16
      clear c16
      replace H := Option.bind_eq_some_iff.mp H
      obtain ⟨⟨t533, t534, t535⟩, A170, H⟩ := H
      replace H : (if (ji14) < (l3.length : Int) then ((aircheckref02_Node.f k t534 (rdOf ByteArray.empty l3 (ji14))).bind fun t537 => (some (t533, t537, t535))) else (none)) = some (r1, r2, r3) := H
      have A17 := Aside0.mk A170
      clear A170
      by_cases c18 : (ji14) < (l3.length : Int)
      ·rw [if_pos c18] at H
       have c18b0 : decide ((ji14) < (l3.length : Int)) = true := decide_eq_true c18
       clear c18
       replace H := Option.bind_eq_some_iff.mp H
       obtain ⟨t537, A190, H⟩ := H
       replace H : (some (t533, t537, t535)) = some (r1, r2, r3) := H
       have A19 := Aside0.mk A190
       clear A190
       simp only [Option.some.injEq, Prod.mk.injEq] at H
       obtain ⟨rfl, rfl, rfl⟩ := H
       go_enter Tryd.func52, Tryd.ntmps52
       go_wp2_with (first | ((with_reducible refine gate_callee (f := 42) rfl ?_); refine goesL_ (some 43) rfl rfl Tryd.func42 (by kernel_rfl) rfl #[.int .i64 a2] rfl (by (try simp only [List.map_toArray, List.map_cons, List.map_nil]); first | done | rfl | (simp only [List.length_drop, List.length_take]; rfl)) ?_; (with_reducible refine (aircheckref02_Left.calls k a2 t531 _ A12.out).mono ?_); rintro e w' ⟨rfl, ⟨nd, rfl⟩⟩; refine ⟨_, rfl, ?_⟩; obtain ⟨i020, hi020, _, hsz20, _⟩ := info_parts info9; obtain ⟨hcut20, hA20, hC20⟩ := print_take_of (P := Tryd.prog) Value.string (⟨#[]⟩ : ByteArray) 22 9 .i64 Tryd.underlying22 hi020 hsz20 A3 c3 l3 (ji14) (of_decide_eq_true (by first | (with_reducible assumption) | assumption)) (of_decide_eq_true (by first | (with_reducible assumption) | assumption)) HC3.out; have HR532 := Aside0.mk (Kd.C_of_reads (h1 := fun _ => rfl) (hA20 _ (Kd.reads_of_C HR3.out))); have HC532 := Aside0.mk hC20; clear hA20 hC20 hi020 hsz20) | ((with_reducible refine gate_callee (f := 52) rfl ?_); refine goesL_ (some 55) rfl rfl Tryd.func52 (by kernel_rfl) rfl #[.string a0, .int .i64 a1, .int .i64 t531, .slice A3 (l3.take ((ji14) : Int).toNat).length c3, .bool a4] rfl (by (try simp only [List.map_toArray, List.map_cons, List.map_nil]); first | done | (rw [show (l3.take ((ji14) : Int).toNat).length = (ji14).toNat from (by rw [List.length_take]; have h_ : ((ji14) : Int) ≤ (l3.length : Int) := of_decide_eq_true (by first | (with_reducible assumption) | assumption); omega)] <;> rfl) | (simp only [hji14]; rfl) | rfl | (simp only [List.length_drop, List.length_take]; rfl)) ?_; (with_reducible refine (ih k (by omega) a0 a1 t531 _ _ (l3.take ((ji14) : Int).toNat) a4 t533 t534 t535 _ ?side1 ?side2 A17.out).mono ?_); (case side1 => repeat (first | exact HR532.out | (with_reducible refine Kd.C_alloc ?_ _) | (with_reducible refine Kd.C_drewN ?_ _) | (with_reducible refine Kd.C_drew ?_))); (case side2 => exact HC532.out); rintro e w21 ⟨rfl, hb⟩; refine ⟨_, rfl, ?_⟩; have n0_ := Aside0.mk (below_step (by repeat (first | (with_reducible first | exact HB.out | apply below_alloc | apply pw_below_drewN | apply below_drew1) | exact HB.out)) hb); clear HB; have HB := n0_; clear n0_; (try clear hb); (try clear hb2); (try clear hk); (try clear hi); have p536 : 0 ≤ ((ji14) : Int) := of_decide_eq_true (by first | (with_reducible assumption) | assumption); have q536 : (ji14) < (l3.length : Int) := of_decide_eq_true (by first | (with_reducible assumption) | assumption); obtain ⟨ad536, e536, hx536_0⟩ := Kd.at_string HR3.out (ji14) p536 q536; cases e536; replace hx536_0 := (HB.out.cell (World.block_lt_of_cell? w _ hx536_0)).trans hx536_0; replace p536 := eq_true p536; replace q536 := eq_true q536) | ((with_reducible refine gate_callee (f := 35) rfl ?_); refine goesL_ (some 65) rfl rfl Tryd.func35 (by kernel_rfl) rfl #[.string t534, .string (rdOf ByteArray.empty l3 (ji14))] rfl (by (try simp only [List.map_toArray, List.map_cons, List.map_nil]); first | done | (simp only [hji14]; rfl) | rfl | (simp only [List.length_drop, List.length_take]; rfl)) ?_; (with_reducible refine (aircheckref02_Node.calls k t534 (rdOf ByteArray.empty l3 (ji14)) t537 _ A19.out).mono ?_); rintro e w22 ⟨rfl, hb⟩; refine ⟨_, rfl, ?_⟩; have n0_ := Aside0.mk (below_step (by repeat (first | (with_reducible first | exact HB.out | apply below_alloc | apply pw_below_drewN | apply below_drew1) | exact HB.out)) hb); clear HB; have HB := n0_; clear n0_; (try clear hb); (try clear hb2); (try clear hk); (try clear hi)))
       go_ret3
       exact ⟨by first | rfl | (simp [errW_none, errW_some] <;> rfl) | (simp only [← hji14]; first | rfl | (simp [errW_none, errW_some] <;> rfl)) | (simp [*, errW_none, errW_some] <;> rfl), by repeat (first | (with_reducible first | exact HB.out | apply below_alloc | apply pw_below_drewN | apply below_drew1) | exact HB.out)⟩
      ·rw [if_neg c18] at H
       exact absurd H (by simp)
     ·rw [if_neg c16] at H
      exact absurd H (by simp)
    ·rw [if_neg c15] at H
     exact absurd H (by simp)
   ·rw [if_neg c13] at H
    have c13b0 : decide (a1 ≤ t531) = false := decide_eq_false c13
    clear c13
    obtain ⟨ji23, hji23⟩ : ∃ j_ : Int, (wrap64 ((l3.length : Int) - 1)) = j_ := ⟨_, rfl⟩
    replace H : (if 0 ≤ (ji23) then (if (ji23) ≤ (l3.length : Int) then ((aircheckref02_both.f k a0 (wrap64 (a1 - t531)) (wrap64 (a2 - t531)) (l3.take ((ji23) : Int).toNat) false).bind fun bt539 => (if (ji23) < (l3.length : Int) then ((aircheckref02_Node.f k (rdOf ByteArray.empty l3 (ji23)) bt539.1).bind fun t543 => ((aircheckref02_Node.f k (rdOf ByteArray.empty l3 (ji23)) bt539.2.1).bind fun t545 => (some (t543, t545, bt539.2.2)))) else (none))) else (none)) else (none)) = some (r1, r2, r3) := by first | (rw [hji23] at H; exact H) | (simp only [hji23] at H ⊢; exact H)
    (try rw [hji23] at c11b0)
    (try rw [hji23] at A12)
    have hji23w : (IntKind.i64.wrap ((l3.length : Int) - 1)) = ji23 := (i64_w _).trans hji23
    by_cases c24 : 0 ≤ (ji23)
    ·rw [if_pos c24] at H
     have c24b0 := eq_true c24
     have c24b1 : decide (0 ≤ (ji23)) = true := decide_eq_true c24
     clear c24
     by_cases c25 : (ji23) ≤ (l3.length : Int)
     ·rw [if_pos c25] at H
      have c25b0 := eq_true c25
      have c25b1 : decide ((ji23) ≤ (l3.length : Int)) = true := decide_eq_true c25
      clear c25
      replace H := Option.bind_eq_some_iff.mp H
      obtain ⟨⟨t539, t540, t541⟩, A260, H⟩ := H
      replace H : (if (ji23) < (l3.length : Int) then ((aircheckref02_Node.f k (rdOf ByteArray.empty l3 (ji23)) t539).bind fun t543 => ((aircheckref02_Node.f k (rdOf ByteArray.empty l3 (ji23)) t540).bind fun t545 => (some (t543, t545, t541)))) else (none)) = some (r1, r2, r3) := H
      have A26 := Aside0.mk A260
      clear A260
      by_cases c27 : (ji23) < (l3.length : Int)
      ·rw [if_pos c27] at H
       have c27b0 : decide ((ji23) < (l3.length : Int)) = true := decide_eq_true c27
       clear c27
       replace H := Option.bind_eq_some_iff.mp H
       obtain ⟨t543, A280, H⟩ := H
       replace H : ((aircheckref02_Node.f k (rdOf ByteArray.empty l3 (ji23)) t540).bind fun t545 => (some (t543, t545, t541))) = some (r1, r2, r3) := H
       have A28 := Aside0.mk A280
       clear A280
       replace H := Option.bind_eq_some_iff.mp H
       obtain ⟨t545, A290, H⟩ := H
       replace H : (some (t543, t545, t541)) = some (r1, r2, r3) := H
       have A29 := Aside0.mk A290
       clear A290
       simp only [Option.some.injEq, Prod.mk.injEq] at H
       obtain ⟨rfl, rfl, rfl⟩ := H
       go_enter Tryd.func52, Tryd.ntmps52
       try go_wp2_with (first | ((with_reducible refine gate_callee (f := 42) rfl ?_); refine goesL_ (some 43) rfl rfl Tryd.func42 (by kernel_rfl) rfl #[.int .i64 a2] rfl (by (try simp only [List.map_toArray, List.map_cons, List.map_nil]); first | done | rfl | (simp only [List.length_drop, List.length_take]; rfl)) ?_; (with_reducible refine (aircheckref02_Left.calls k a2 t531 _ A12.out).mono ?_); rintro e w' ⟨rfl, ⟨nd, rfl⟩⟩; refine ⟨_, rfl, ?_⟩; obtain ⟨i030, hi030, _, hsz30, _⟩ := info_parts info9; obtain ⟨hcut30, hA30, hC30⟩ := print_take_of (P := Tryd.prog) Value.string (⟨#[]⟩ : ByteArray) 22 9 .i64 Tryd.underlying22 hi030 hsz30 A3 c3 l3 (ji23) (of_decide_eq_true (by first | (with_reducible assumption) | assumption)) (of_decide_eq_true (by first | (with_reducible assumption) | assumption)) HC3.out; have HR538 := Aside0.mk (Kd.C_of_reads (h1 := fun _ => rfl) (hA30 _ (Kd.reads_of_C HR3.out))); have HC538 := Aside0.mk hC30; clear hA30 hC30 hi030 hsz30) | ((with_reducible refine gate_callee (f := 52) rfl ?_); refine goesL_ (some 78) rfl rfl Tryd.func52 (by kernel_rfl) rfl #[.string a0, .int .i64 (wrap64 (a1 - t531)), .int .i64 (wrap64 (a2 - t531)), .slice A3 (l3.take ((ji23) : Int).toNat).length c3, .bool false] rfl (by (try simp only [List.map_toArray, List.map_cons, List.map_nil]); first | done | (rw [show (l3.take ((ji23) : Int).toNat).length = (ji23).toNat from (by rw [List.length_take]; have h_ : ((ji23) : Int) ≤ (l3.length : Int) := of_decide_eq_true (by first | (with_reducible assumption) | assumption); omega)] <;> rfl) | (simp only [hji23]; rfl) | rfl | (simp only [List.length_drop, List.length_take]; rfl)) ?_; (with_reducible refine (ih k (by omega) a0 (wrap64 (a1 - t531)) (wrap64 (a2 - t531)) _ _ (l3.take ((ji23) : Int).toNat) false t539 t540 t541 _ ?side1 ?side2 A26.out).mono ?_); (case side1 => repeat (first | exact HR538.out | (with_reducible refine Kd.C_alloc ?_ _) | (with_reducible refine Kd.C_drewN ?_ _) | (with_reducible refine Kd.C_drew ?_))); (case side2 => exact HC538.out); rintro e w31 ⟨rfl, hb⟩; refine ⟨_, rfl, ?_⟩; have n0_ := Aside0.mk (below_step (by repeat (first | (with_reducible first | exact HB.out | apply below_alloc | apply pw_below_drewN | apply below_drew1) | exact HB.out)) hb); clear HB; have HB := n0_; clear n0_; (try clear hb); (try clear hb2); (try clear hk); (try clear hi)))
       have n0_ := Aside0.mk (below_drew1 HB.out)
       clear HB
       have HB := n0_
       clear n0_
       have p542 : 0 ≤ ((ji23) : Int) := of_decide_eq_true (by first | (with_reducible assumption) | assumption)
       have q542 : (ji23) < (l3.length : Int) := of_decide_eq_true (by first | (with_reducible assumption) | assumption)
       obtain ⟨ad542, e542, hx542_0⟩ := Kd.at_string HR3.out (ji23) p542 q542
       have hw542_0 := hx542_0
       cases e542
       replace hx542_0 := (HB.out.cell (World.block_lt_of_cell? w _ hx542_0)).trans hx542_0
       replace p542 := eq_true p542
       replace q542 := eq_true q542
       have p544 : 0 ≤ ((ji23) : Int) := of_decide_eq_true (by first | (with_reducible assumption) | assumption)
       have q544 : (ji23) < (l3.length : Int) := of_decide_eq_true (by first | (with_reducible assumption) | assumption)
       obtain ⟨ad544, e544, hx544_0⟩ := Kd.at_string HR3.out (ji23) p544 q544
       have hw544_0 := hx544_0
       obtain rfl : ad542 = ad544 := (by injection e544)
       replace hx544_0 := (HB.out.cell (World.block_lt_of_cell? w _ hx544_0)).trans hx544_0
       replace p544 := eq_true p544
       replace q544 := eq_true q544
       refine start_ (n := 16) (S := fun w' => w'.cell? (ad542.add ((ji23)).toNat) = some (.string (rdOf ByteArray.empty l3 (ji23))) ∧ w'.cell? (ad542.add ((ji23)).toNat) = some (.string (rdOf ByteArray.empty l3 (ji23)))) (ds := []) #[false, false, false, false, false, false, false, false, false, false, false, false, false, false, false, false] (by kernel_rfl) rfl rfl ⟨((HB.out.cell (World.block_lt_of_cell? w _ hw542_0)).trans hw542_0), ((HB.out.cell (World.block_lt_of_cell? w _ hw544_0)).trans hw544_0)⟩ (fun hHeld => ?_); refine with_tabW aircheckref02_both.tab15 aircheckref02_both.bits15 (fun HT_ HW_ => ?_)
       generalize w31.drew = w32 at HB hx542_0 hx544_0 hHeld ⊢
       refine pure_ (i := 0) (N := some 82) (v := ?_) (a' := ?_) #[true, false, false, false, false, false, false, false, false, false, false, false, false, false, false, false] rfl rfl (any_of HT_.out (by kernel_rfl)) (fun _ _ _ h => h) (Or.inl ⟨by rfl, ?_⟩) ?_ ?_
       rotate_left
       ·intro w'
        go_simp
        with_reducible rfl
       rotate_left
       ·simp only [Act.put, List.setIfInBounds_toArray, List.set_cons_zero, List.set_cons_succ, i64_w, i32_w]
        rfl
       refine pure_ (i := 1) (N := some 83) (v := ?_) (a' := ?_) #[true, true, false, false, false, false, false, false, false, false, false, false, false, false, false, false] rfl rfl (any_of HT_.out (by kernel_rfl)) (fun _ _ _ h => h) (Or.inl ⟨by rfl, ?_⟩) ?_ ?_
       rotate_left
       ·intro w'
        go_simp
        with_reducible rfl
       rotate_left
       ·simp only [Act.put, List.setIfInBounds_toArray, List.set_cons_zero, List.set_cons_succ, i64_w, i32_w]
        rfl
       refine pure_ (i := 2) (N := some 84) (v := ?_) (a' := ?_) #[true, true, true, false, false, false, false, false, false, false, false, false, false, false, false, false] rfl rfl (any_of HT_.out (by kernel_rfl)) (fun _ _ _ h => h) (Or.inl ⟨by rfl, ?_⟩) ?_ ?_
       rotate_left
       ·intro w'
        go_simp
        with_reducible rfl
       rotate_left
       ·simp only [Act.put, List.setIfInBounds_toArray, List.set_cons_zero, List.set_cons_succ, i64_w, i32_w]
        rfl
       refine pure_ (i := 4) (N := some 86) (v := ?_) (a' := ?_) #[true, true, true, false, true, false, false, false, false, false, false, false, false, false, false, false] rfl rfl (any_of HT_.out (by kernel_rfl)) (fun _ _ _ h => h) (Or.inl ⟨by rfl, ?_⟩) ?_ ?_
       rotate_left
       ·intro w'
        go_simp
        with_reducible rfl
       rotate_left
       ·simp only [Act.put, List.setIfInBounds_toArray, List.set_cons_zero, List.set_cons_succ, i64_w, i32_w]
        rfl
       refine pure_ (i := 6) (N := some 88) (v := ?_) (a' := ?_) #[true, true, true, false, true, false, true, false, false, false, false, false, false, false, false, false] rfl rfl (any_of HT_.out (by kernel_rfl)) (fun _ _ _ h => h) (Or.inl ⟨by rfl, ?_⟩) ?_ ?_
       rotate_left
       ·intro w'
        go_simp
        with_reducible rfl
       rotate_left
       ·simp only [Act.put, List.setIfInBounds_toArray, List.set_cons_zero, List.set_cons_succ, i64_w, i32_w]
        rfl
       refine pure_ (i := 7) (N := some 89) (v := ?_) (a' := ?_) #[true, true, true, false, true, false, true, true, false, false, false, false, false, false, false, false] rfl rfl (any_of HT_.out (by kernel_rfl)) (fun _ _ _ h => h) (Or.inl ⟨by rfl, ?_⟩) ?_ ?_
       rotate_left
       ·intro w'
        go_simp
        with_reducible rfl
       rotate_left
       ·simp only [Act.put, List.setIfInBounds_toArray, List.set_cons_zero, List.set_cons_succ, i64_w, i32_w]
        rfl
       refine pure_ (i := 8) (N := some 90) (v := ?_) (a' := ?_) #[true, true, true, false, true, false, true, true, true, false, false, false, false, false, false, false] rfl rfl (any_of HT_.out (by kernel_rfl)) (fun _ _ _ h => h) (Or.inl ⟨by rfl, ?_⟩) ?_ ?_
       rotate_left
       ·intro w'
        go_simp
        with_reducible rfl
       rotate_left
       ·simp only [Act.put, List.setIfInBounds_toArray, List.set_cons_zero, List.set_cons_succ, i64_w, i32_w]
        rfl
       refine pure_ (i := 10) (N := some 92) (v := ?_) (a' := ?_) #[true, true, true, false, true, false, true, true, true, false, true, false, false, false, false, false] rfl rfl (any_of HT_.out (by kernel_rfl)) (fun _ _ _ h => h) (Or.inl ⟨by rfl, ?_⟩) ?_ ?_
       rotate_left
       ·intro w'
        go_simp
        with_reducible rfl
       rotate_left
       ·simp only [Act.put, List.setIfInBounds_toArray, List.set_cons_zero, List.set_cons_succ, i64_w, i32_w]
        rfl
       refine pure_ (i := 12) (N := some 94) (v := ?_) (a' := ?_) #[true, true, true, false, true, false, true, true, true, false, true, false, true, false, false, false] rfl rfl (any_of HT_.out (by kernel_rfl)) (fun _ _ _ h => h) (Or.inl ⟨by rfl, ?_⟩) ?_ ?_
       rotate_left
       ·intro w'
        go_simp
        with_reducible rfl
       rotate_left
       ·simp only [Act.put, List.setIfInBounds_toArray, List.set_cons_zero, List.set_cons_succ, i64_w, i32_w]
        rfl
       refine take_ (i := 3) (N := some 85) (v := ?_) (a' := ?_) #[true, true, true, true, true, false, true, true, true, false, true, false, true, false, false, false] rfl rfl (take_ofW HT_.out HW_.out (by kernel_rfl)) (fun _ _ _ h => h) (Or.inl ⟨by rfl, ?_⟩) hHeld ?_ ?_
       rotate_left
       ·rintro w' ⟨s0, s1⟩
        go_simp
        with_reducible rfl
       rotate_left
       ·simp only [Act.put, List.setIfInBounds_toArray, List.set_cons_zero, List.set_cons_succ, i64_w, i32_w]
        rfl
       refine take_ (i := 9) (N := some 91) (v := ?_) (a' := ?_) #[true, true, true, true, true, false, true, true, true, true, true, false, true, false, false, false] rfl rfl (take_ofW HT_.out HW_.out (by kernel_rfl)) (fun _ _ _ h => h) (Or.inl ⟨by rfl, ?_⟩) hHeld ?_ ?_
       rotate_left
       ·rintro w' ⟨s0, s1⟩
        go_simp
        with_reducible rfl
       rotate_left
       ·simp only [Act.put, List.setIfInBounds_toArray, List.set_cons_zero, List.set_cons_succ, i64_w, i32_w]
        rfl
       refine one_ (i := 5) (N := some 87) #[true, true, true, true, true, true, true, true, true, true, true, false, true, false, false, false] rfl rfl (one_of HT_.out (by kernel_rfl)) (by decide) (fun K hK => ?_)
       refine goes_ Tryd.func35 (by kernel_rfl) rfl #[.string (rdOf ByteArray.empty l3 (ji23)), .string t539] (by rfl) rfl rfl (by (try simp only [List.map_toArray, List.map_cons, List.map_nil]); first | done | (simp only [hji23]; rfl) | rfl | (simp only [List.length_drop, List.length_take]; rfl)) ?_
       with_reducible refine (aircheckref02_Node.calls k (rdOf ByteArray.empty l3 (ji23)) t539 t543 _ A28.out).mono ?_
       rintro e w33 ⟨rfl, hb⟩
       refine ⟨_, rfl, ?_⟩
       have n0_ := Aside0.mk (below_step (by repeat (first | (with_reducible first | exact HB.out | apply below_alloc | apply pw_below_drewN | apply below_drew1) | exact HB.out)) hb)
       clear HB
       have HB := n0_
       clear n0_
       (try clear hb)
       (try clear hb2)
       (try clear hk)
       (try clear hi)
       refine hK.out _ _ ⟨((HB.out.cell (World.block_lt_of_cell? w _ hw542_0)).trans hw542_0), ((HB.out.cell (World.block_lt_of_cell? w _ hw544_0)).trans hw544_0)⟩ (fun hHeld => ?_)
       clear hK K
       refine norm_ (a' := ?_) ?_ ?_
       rotate_left
       ·show Act.put _ (some 87) _ = _
        simp only [Act.put, List.setIfInBounds_toArray, List.set_cons_zero, List.set_cons_succ, i64_w, i32_w]
        rfl
       refine one_ (i := 11) (N := some 93) #[true, true, true, true, true, true, true, true, true, true, true, true, true, false, false, false] rfl rfl (one_of HT_.out (by kernel_rfl)) (by decide) (fun K hK => ?_)
       refine goes_ Tryd.func35 (by kernel_rfl) rfl #[.string (rdOf ByteArray.empty l3 (ji23)), .string t540] (by rfl) rfl rfl (by (try simp only [List.map_toArray, List.map_cons, List.map_nil]); first | done | (simp only [hji23]; rfl) | rfl | (simp only [List.length_drop, List.length_take]; rfl)) ?_
       with_reducible refine (aircheckref02_Node.calls k (rdOf ByteArray.empty l3 (ji23)) t540 t545 _ A29.out).mono ?_
       rintro e w34 ⟨rfl, hb⟩
       refine ⟨_, rfl, ?_⟩
       have n0_ := Aside0.mk (below_step (by repeat (first | (with_reducible first | exact HB.out | apply below_alloc | apply pw_below_drewN | apply below_drew1) | exact HB.out)) hb)
       clear HB
       have HB := n0_
       clear n0_
       (try clear hb)
       (try clear hb2)
       (try clear hk)
       (try clear hi)
       refine hK.out _ _ ⟨((HB.out.cell (World.block_lt_of_cell? w _ hw542_0)).trans hw542_0), ((HB.out.cell (World.block_lt_of_cell? w _ hw544_0)).trans hw544_0)⟩ (fun hHeld => ?_)
       clear hK K
       refine norm_ (a' := ?_) ?_ ?_
       rotate_left
       ·show Act.put _ (some 93) _ = _
        simp only [Act.put, List.setIfInBounds_toArray, List.set_cons_zero, List.set_cons_succ, i64_w, i32_w]
        rfl
       refine pure_ (i := 13) (N := some 10) (v := ?_) (a' := ?_) #[true, true, true, true, true, true, true, true, true, true, true, true, true, true, false, false] rfl rfl (any_of HT_.out (by kernel_rfl)) (fun _ _ _ h => h) (Or.inl ⟨by rfl, ?_⟩) ?_ ?_
       rotate_left
       ·intro w'
        go_simp
        with_reducible rfl
       rotate_left
       ·simp only [Act.put, List.setIfInBounds_toArray, List.set_cons_zero, List.set_cons_succ, i64_w, i32_w]
        rfl
       refine pure_ (i := 14) (N := some 11) (v := ?_) (a' := ?_) #[true, true, true, true, true, true, true, true, true, true, true, true, true, true, true, false] rfl rfl (any_of HT_.out (by kernel_rfl)) (fun _ _ _ h => h) (Or.inl ⟨by rfl, ?_⟩) ?_ ?_
       rotate_left
       ·intro w'
        go_simp
        with_reducible rfl
       rotate_left
       ·simp only [Act.put, List.setIfInBounds_toArray, List.set_cons_zero, List.set_cons_succ, i64_w, i32_w]
        rfl
       refine pure_ (i := 15) (N := some 12) (v := ?_) (a' := ?_) #[true, true, true, true, true, true, true, true, true, true, true, true, true, true, true, true] rfl rfl (any_of HT_.out (by kernel_rfl)) (fun _ _ _ h => h) (Or.inl ⟨by rfl, ?_⟩) ?_ ?_
       rotate_left
       ·intro w'
        go_simp
        with_reducible rfl
       rotate_left
       ·simp only [Act.put, List.setIfInBounds_toArray, List.set_cons_zero, List.set_cons_succ, i64_w, i32_w]
        rfl
       refine done_ (done_of HT_.out (by kernel_rfl)) ?_
       try go_wp2
       go_ret3
       exact ⟨by first | rfl | (simp [errW_none, errW_some] <;> rfl) | (simp only [← hji23]; first | rfl | (simp [errW_none, errW_some] <;> rfl)) | (simp [*, errW_none, errW_some] <;> rfl), by repeat (first | (with_reducible first | exact HB.out | apply below_alloc | apply pw_below_drewN | apply below_drew1) | exact HB.out)⟩
      ·rw [if_neg c27] at H
       exact absurd H (by simp)
     ·rw [if_neg c25] at H
      exact absurd H (by simp)
    ·rw [if_neg c24] at H
     exact absurd H (by simp)
end Go.Proofs.YtlmlimihgohchaaDoor.PD
end
section
-- Written by a program of this session out of the translation's print; not trusted: checked by the kernel.
namespace Go.Proofs.YtlmlimihgohchaaDoor.PD
open Go.Proofs.YtlmlimihgohchaaDoor.Ext
attribute [local go_sem] u32_signed u32_max
open Go.RowKit Go.Proofs.YtlmlimihgohchaaDoorW.PrintWords Go.Proofs.YtlmlimihgohchaaDoorW.PrintLast Go.Proofs.YtlmlimihgohchaaDoorW.PrintMore
attribute [local go_sem] max2_int min2_int max_two min_two max_three min_three max_four min_four   -- for this text's walks alone
set_option linter.unusedVariables false
set_option linter.unusedSimpArgs false
/-! ### aircheckref02_VerifyExtension: function 24 -/
def aircheckref02_VerifyExtension.j0 : Nat → ByteArray → Int → ByteArray → Int → List ByteArray → Bool → Option (Bool)
 | 0, _, _, _, _, _, _ => none
 | k + 1, x0, x1, x2, x3, x4, x37 => if x37 = true then (some false) else (if x1 = 0 then (if (x4.length : Int) = 0 then ((aircheckref02_Sum.f k (⟨#[]⟩ : ByteArray)).bind fun t547 => (some (x0.toList == t547.toList))) else (some false)) else (if x1 = x3 then (if (x4.length : Int) = 0 then (some (x0.toList == x2.toList)) else (some false)) else ((aircheckref02_both.f k x0 x1 x3 x4 true).bind fun bt548 => (if bt548.2.2 = true then (if bt548.1.toList = x0.toList then (some (bt548.2.1.toList == x2.toList)) else (some false)) else (some false)))))
def aircheckref02_VerifyExtension.f (k : Nat) (a0 : ByteArray) (a1 : Int) (a2 : ByteArray) (a3 : Int) (l4 : List ByteArray) : Option (Bool) := (aircheckref02_Digests.f k l4).bind fun t546 => (if a1 < 0 then (aircheckref02_VerifyExtension.j0 k a0 a1 a2 a3 l4 true) else (if a1 > a3 then (aircheckref02_VerifyExtension.j0 k a0 a1 a2 a3 l4 true) else (if t546 = true then (if (a0.size : Int) = 32 then (aircheckref02_VerifyExtension.j0 k a0 a1 a2 a3 l4 ((a2.size : Int) != 32)) else (aircheckref02_VerifyExtension.j0 k a0 a1 a2 a3 l4 true)) else (aircheckref02_VerifyExtension.j0 k a0 a1 a2 a3 l4 true))))
set_option maxHeartbeats 8000000 in
set_option maxRecDepth 100000 in
theorem aircheckref02_VerifyExtension.calls (k : Nat) (a0 : ByteArray) (a1 : Int) (a2 : ByteArray) (a3 : Int) (A4 : Option Addr) (c4 : Nat) (l4 : List ByteArray) (r : Bool) (w : World) (hr4 : Kd.C Kd.string w A4 l4.length l4) (hc4 : l4.length ≤ c4) (h : aircheckref02_VerifyExtension.f k a0 a1 a2 a3 l4 = some r) :
  Calls Tryd.prog 24 #[.string a0, .int .i64 a1, .string a2, .int .i64 a3, .slice A4 l4.length c4] w fun e w' => e = .returned (.bool r) ∧ Below w.heap.size w w' := by
 have HR4 := Aside0.mk hr4
 have HC4 := Aside0.mk hc4
 clear hr4 hc4
 have HB := Aside0.mk (Below.refl w.heap.size w)
 have H : ((aircheckref02_Digests.f k l4).bind fun t546 => (if a1 < 0 then (aircheckref02_VerifyExtension.j0 k a0 a1 a2 a3 l4 true) else (if a1 > a3 then (aircheckref02_VerifyExtension.j0 k a0 a1 a2 a3 l4 true) else (if t546 = true then (if (a0.size : Int) = 32 then (aircheckref02_VerifyExtension.j0 k a0 a1 a2 a3 l4 ((a2.size : Int) != 32)) else (aircheckref02_VerifyExtension.j0 k a0 a1 a2 a3 l4 true)) else (aircheckref02_VerifyExtension.j0 k a0 a1 a2 a3 l4 true))))) = some r := h
 clear h
 replace H := Option.bind_eq_some_iff.mp H
 obtain ⟨t546, A60, H⟩ := H
 replace H : (if a1 < 0 then (aircheckref02_VerifyExtension.j0 k a0 a1 a2 a3 l4 true) else (if a1 > a3 then (aircheckref02_VerifyExtension.j0 k a0 a1 a2 a3 l4 true) else (if t546 = true then (if (a0.size : Int) = 32 then (aircheckref02_VerifyExtension.j0 k a0 a1 a2 a3 l4 ((a2.size : Int) != 32)) else (aircheckref02_VerifyExtension.j0 k a0 a1 a2 a3 l4 true)) else (aircheckref02_VerifyExtension.j0 k a0 a1 a2 a3 l4 true)))) = some r := H
 have A6 := Aside0.mk A60
 clear A60
 have HC7 := Aside0.mk H
 clear H
 go_enter Tryd.func24, Tryd.ntmps24
 go_upto_region 2 with (first | ((with_reducible refine gate_callee (f := 49) rfl ?_); refine goesL_ (some 16) rfl rfl Tryd.func49 (by kernel_rfl) rfl #[.slice A4 l4.length c4] rfl (by (try simp only [List.map_toArray, List.map_cons, List.map_nil]); first | done | rfl | (simp only [List.length_drop, List.length_take]; rfl)) ?_; (with_reducible refine (aircheckref02_Digests.calls k _ _ l4 t546 _ ?side1 ?side2 A6.out).mono ?_); (case side1 => repeat (first | exact HR4.out | (with_reducible refine Kd.C_alloc ?_ _) | (with_reducible refine Kd.C_drewN ?_ _) | (with_reducible refine Kd.C_drew ?_))); (case side2 => exact HC4.out); rintro e w' ⟨rfl, ⟨nd, rfl⟩⟩; refine ⟨_, rfl, ?_⟩))
 (try simp only [Act.put, List.setIfInBounds_toArray, List.set_cons_zero, List.set_cons_succ])
 go_cut [37] (fun v37 wc => ∃ (kq : Nat) (x37_6 : Bool), v37 = .bool x37_6 ∧ Aside0 (aircheckref02_VerifyExtension.j0 kq a0 a1 a2 a3 l4 x37_6 = some r) ∧ Aside0 (kq ≤ k) ∧ Aside0 (Below w.heap.size w wc))
 case first =>
  have H := HC7.out
  clear HC7
  by_cases c8 : a1 < 0
  ·rw [if_pos c8] at H
   have c8b0 : decide (a1 < 0) = true := decide_eq_true c8
   clear c8
   (first | rw [c8b0] | (simp only [i64_w, i32_w]; rw [c8b0]) | skip)
   have H' := Aside0.mk H
   clear H
   go_wp2
   go_meet
   case rel => exact ⟨_, (true), (by first | rfl | (simp; done) | (simp [*]; done)), H', ⟨by first | omega | exact Nat.le_refl _⟩, ⟨by repeat (first | (with_reducible first | exact HB.out | apply below_alloc | apply pw_below_drewN | apply below_drew1) | exact HB.out)⟩⟩
  ·rw [if_neg c8] at H
   have c8b0 : decide (a1 < 0) = false := decide_eq_false c8
   clear c8
   (first | rw [c8b0] | (simp only [i64_w, i32_w]; rw [c8b0]) | skip)
   by_cases c9 : a1 > a3
   ·rw [if_pos c9] at H
    have c9b0 : decide (a3 < a1) = true := decide_eq_true c9
    clear c9
    have H' := Aside0.mk H
    clear H
    go_wp2
    go_meet
    case rel => exact ⟨_, (true), (by first | rfl | (simp; done) | (simp [*]; done)), H', ⟨by first | omega | exact Nat.le_refl _⟩, ⟨by repeat (first | (with_reducible first | exact HB.out | apply below_alloc | apply pw_below_drewN | apply below_drew1) | exact HB.out)⟩⟩
   ·rw [if_neg c9] at H
    have c9b0 : decide (a3 < a1) = false := decide_eq_false c9
    clear c9
    by_cases c10 : t546 = true
    ·subst c10
     have H1 : (if (a0.size : Int) = 32 then (aircheckref02_VerifyExtension.j0 k a0 a1 a2 a3 l4 ((a2.size : Int) != 32)) else (aircheckref02_VerifyExtension.j0 k a0 a1 a2 a3 l4 true)) = some r := by rw [if_pos rfl] at H; exact H
     clear H
     have H := H1
     clear H1
     by_cases c11 : (a0.size : Int) = 32
     ·rw [if_pos c11] at H
      have c11b0 : ((a0.size : Int) == 32) = true := beq_iff_eq.mpr c11
      have c11b1 : ((a0.size : Int) != 32) = false := bne_eq_false_iff_eq.mpr c11
      clear c11
      have H' := Aside0.mk H
      clear H
      go_wp2
      go_meet
      case rel => exact ⟨_, (((a2.size : Int) != 32)), (by first | rfl | (simp; done) | (simp [*]; done)), H', ⟨by first | omega | exact Nat.le_refl _⟩, ⟨by repeat (first | (with_reducible first | exact HB.out | apply below_alloc | apply pw_below_drewN | apply below_drew1) | exact HB.out)⟩⟩
     ·rw [if_neg c11] at H
      have c11b0 : ((a0.size : Int) == 32) = false := beq_eq_false_iff_ne.mpr c11
      have c11b1 : ((a0.size : Int) != 32) = true := bne_iff_ne.mpr c11
      have H' := Aside0.mk H
      clear H
      go_wp2
      go_meet
      case rel => exact ⟨_, (true), (by first | rfl | (simp; done) | (simp [*]; done)), H', ⟨by first | omega | exact Nat.le_refl _⟩, ⟨by repeat (first | (with_reducible first | exact HB.out | apply below_alloc | apply pw_below_drewN | apply below_drew1) | exact HB.out)⟩⟩
    ·replace c10 := Bool.eq_false_iff.mpr c10
     subst c10
     have H1 : (aircheckref02_VerifyExtension.j0 k a0 a1 a2 a3 l4 true) = some r := by rw [if_neg (show ¬ (false = true) by decide)] at H; exact H
     clear H
     have H := H1
     clear H1
     have H' := Aside0.mk H
     clear H
     go_wp2
     go_meet
     case rel => exact ⟨_, (true), (by first | rfl | (simp; done) | (simp [*]; done)), H', ⟨by first | omega | exact Nat.le_refl _⟩, ⟨by repeat (first | (with_reducible first | exact HB.out | apply below_alloc | apply pw_below_drewN | apply below_drew1) | exact HB.out)⟩⟩
 case rest =>
  clear HC7
  try clear c1
  try clear c2
  try clear p2
  try clear c4
  try clear c8
  try clear c8b0
  try clear c9
  try clear c9b0
  try clear c10
  try clear c11
  try clear c11b0
  try clear c11b1
  obtain ⟨kq, x37_6, rfl, HA, HJ6, HB⟩ := hcut
  cases kq with
  | zero => exact absurd HA.out (by simp [aircheckref02_VerifyExtension.j0])
  | succ kj6 =>
   have H := HA.out
   clear HA
   simp only [aircheckref02_VerifyExtension.j0] at H
   by_cases c12 : x37_6 = true
   ·subst c12
    have H1 : (some false) = some r := by rw [if_pos rfl] at H; exact H
    clear H
    have H := H1
    clear H1
    obtain rfl := Option.some.inj H
    go_wp2
    go_ret
    exact ⟨by first | rfl | (simp [errW_none, errW_some] <;> rfl) | (simp [*, errW_none, errW_some] <;> rfl), by repeat (first | (with_reducible first | exact HB.out | apply below_alloc | apply pw_below_drewN | apply below_drew1) | exact HB.out)⟩
   ·replace c12 := Bool.eq_false_iff.mpr c12
    subst c12
    have H1 : (if a1 = 0 then (if (l4.length : Int) = 0 then ((aircheckref02_Sum.f kj6 (⟨#[]⟩ : ByteArray)).bind fun t547 => (some (a0.toList == t547.toList))) else (some false)) else (if a1 = a3 then (if (l4.length : Int) = 0 then (some (a0.toList == a2.toList)) else (some false)) else ((aircheckref02_both.f kj6 a0 a1 a3 l4 true).bind fun bt548 => (if bt548.2.2 = true then (if bt548.1.toList = a0.toList then (some (bt548.2.1.toList == a2.toList)) else (some false)) else (some false))))) = some r := by rw [if_neg (show ¬ (false = true) by decide)] at H; exact H
    clear H
    have H := H1
    clear H1
    by_cases c13 : a1 = 0
    ·rw [if_pos c13] at H
     have c13b0 : (a1 == 0) = true := beq_iff_eq.mpr c13
     have c13b1 : (a1 != 0) = false := bne_eq_false_iff_eq.mpr c13
     clear c13
     by_cases c14 : (l4.length : Int) = 0
     ·rw [if_pos c14] at H
      have c14b0 : ((l4.length : Int) == 0) = true := beq_iff_eq.mpr c14
      have c14b1 : ((l4.length : Int) != 0) = false := bne_eq_false_iff_eq.mpr c14
      clear c14
      replace H := Option.bind_eq_some_iff.mp H
      obtain ⟨t547, A150, H⟩ := H
      replace H : (some (a0.toList == t547.toList)) = some r := H
      have A15 := Aside0.mk A150
      clear A150
      obtain rfl := Option.some.inj H
      go_wp2_with (first | (go_at_call 33; (with_reducible refine (aircheckref02_Sum.calls kj6 (⟨#[]⟩ : ByteArray) t547 _ A15.out).mono ?_); rintro e w16 ⟨rfl, hb⟩; have n0_ := Aside0.mk (below_step (by repeat (first | (with_reducible first | exact HB.out | apply below_alloc | apply pw_below_drewN | apply below_drew1) | exact HB.out)) hb); clear HB; have HB := n0_; clear n0_; (try clear hb); (try clear hb2); (try clear hk); (try clear hi)))
      go_ret
      exact ⟨by first | rfl | (simp [errW_none, errW_some] <;> rfl) | (simp [*, errW_none, errW_some] <;> rfl), by repeat (first | (with_reducible first | exact HB.out | apply below_alloc | apply pw_below_drewN | apply below_drew1) | exact HB.out)⟩
     ·rw [if_neg c14] at H
      have c14b0 : ((l4.length : Int) == 0) = false := beq_eq_false_iff_ne.mpr c14
      have c14b1 : ((l4.length : Int) != 0) = true := bne_iff_ne.mpr c14
      have c14b2 : ¬ (l4 = []) := fun h_ => c14 (by rw [h_]; rfl)
      obtain rfl := Option.some.inj H
      go_wp2
      go_ret
      exact ⟨by first | rfl | (simp [errW_none, errW_some] <;> rfl) | (simp [*, errW_none, errW_some] <;> rfl), by repeat (first | (with_reducible first | exact HB.out | apply below_alloc | apply pw_below_drewN | apply below_drew1) | exact HB.out)⟩
    ·rw [if_neg c13] at H
     have c13b0 : (a1 == 0) = false := beq_eq_false_iff_ne.mpr c13
     have c13b1 : (a1 != 0) = true := bne_iff_ne.mpr c13
     by_cases c17 : a1 = a3
     ·rw [if_pos c17] at H
      have c17b0 : (a1 == a3) = true := beq_iff_eq.mpr c17
      have c17b1 : (a1 != a3) = false := bne_eq_false_iff_eq.mpr c17
      clear c17
      by_cases c18 : (l4.length : Int) = 0
      ·rw [if_pos c18] at H
       have c18b0 : ((l4.length : Int) == 0) = true := beq_iff_eq.mpr c18
       have c18b1 : ((l4.length : Int) != 0) = false := bne_eq_false_iff_eq.mpr c18
       clear c18
       obtain rfl := Option.some.inj H
       go_wp2
       go_ret
       exact ⟨by first | rfl | (simp [errW_none, errW_some] <;> rfl) | (simp [*, errW_none, errW_some] <;> rfl), by repeat (first | (with_reducible first | exact HB.out | apply below_alloc | apply pw_below_drewN | apply below_drew1) | exact HB.out)⟩
      ·rw [if_neg c18] at H
       have c18b0 : ((l4.length : Int) == 0) = false := beq_eq_false_iff_ne.mpr c18
       have c18b1 : ((l4.length : Int) != 0) = true := bne_iff_ne.mpr c18
       have c18b2 : ¬ (l4 = []) := fun h_ => c18 (by rw [h_]; rfl)
       obtain rfl := Option.some.inj H
       go_wp2
       go_ret
       exact ⟨by first | rfl | (simp [errW_none, errW_some] <;> rfl) | (simp [*, errW_none, errW_some] <;> rfl), by repeat (first | (with_reducible first | exact HB.out | apply below_alloc | apply pw_below_drewN | apply below_drew1) | exact HB.out)⟩
     ·rw [if_neg c17] at H
      have c17b0 : (a1 == a3) = false := beq_eq_false_iff_ne.mpr c17
      have c17b1 : (a1 != a3) = true := bne_iff_ne.mpr c17
      replace H := Option.bind_eq_some_iff.mp H
      obtain ⟨⟨t548, t549, t550⟩, A190, H⟩ := H
      replace H : (if t550 = true then (if t548.toList = a0.toList then (some (t549.toList == a2.toList)) else (some false)) else (some false)) = some r := H
      have A19 := Aside0.mk A190
      clear A190
      by_cases c20 : t550 = true
      ·subst c20
       have H1 : (if t548.toList = a0.toList then (some (t549.toList == a2.toList)) else (some false)) = some r := by rw [if_pos rfl] at H; exact H
       clear H
       have H := H1
       clear H1
       by_cases c21 : t548.toList = a0.toList
       ·rw [if_pos c21] at H
        have c21b0 : (t548.toList == a0.toList) = true := beq_iff_eq.mpr c21
        have c21b1 : (t548.toList != a0.toList) = false := bne_eq_false_iff_eq.mpr c21
        clear c21
        obtain rfl := Option.some.inj H
        go_wp2_with (first | ((with_reducible refine gate_callee (f := 52) rfl ?_); refine goesL_ (some 64) rfl rfl Tryd.func52 (by kernel_rfl) rfl #[.string a0, .int .i64 a1, .int .i64 a3, .slice A4 l4.length c4, .bool true] rfl (by (try simp only [List.map_toArray, List.map_cons, List.map_nil]); first | done | rfl | (simp only [List.length_drop, List.length_take]; rfl)) ?_; (with_reducible refine (aircheckref02_both.calls kj6 a0 a1 a3 _ _ l4 true t548 t549 true _ ?side1 ?side2 A19.out).mono ?_); (case side1 => repeat (first | exact (Kd.C_below HR4.out HB.out) | (with_reducible refine Kd.C_alloc ?_ _) | (with_reducible refine Kd.C_drewN ?_ _) | (with_reducible refine Kd.C_drew ?_))); (case side2 => exact HC4.out); rintro e w22 ⟨rfl, hb⟩; refine ⟨_, rfl, ?_⟩; have n0_ := Aside0.mk (below_step (by repeat (first | (with_reducible first | exact HB.out | apply below_alloc | apply pw_below_drewN | apply below_drew1) | exact HB.out)) hb); clear HB; have HB := n0_; clear n0_; (try clear hb); (try clear hb2); (try clear hk); (try clear hi)))
        go_ret
        exact ⟨by first | rfl | (simp [errW_none, errW_some] <;> rfl) | (simp [*, errW_none, errW_some] <;> rfl), by repeat (first | (with_reducible first | exact HB.out | apply below_alloc | apply pw_below_drewN | apply below_drew1) | exact HB.out)⟩
       ·rw [if_neg c21] at H
        have c21b0 : (t548.toList == a0.toList) = false := beq_eq_false_iff_ne.mpr c21
        have c21b1 : (t548.toList != a0.toList) = true := bne_iff_ne.mpr c21
        obtain rfl := Option.some.inj H
        go_wp2_with (first | ((with_reducible refine gate_callee (f := 52) rfl ?_); refine goesL_ (some 64) rfl rfl Tryd.func52 (by kernel_rfl) rfl #[.string a0, .int .i64 a1, .int .i64 a3, .slice A4 l4.length c4, .bool true] rfl (by (try simp only [List.map_toArray, List.map_cons, List.map_nil]); first | done | rfl | (simp only [List.length_drop, List.length_take]; rfl)) ?_; (with_reducible refine (aircheckref02_both.calls kj6 a0 a1 a3 _ _ l4 true t548 t549 true _ ?side1 ?side2 A19.out).mono ?_); (case side1 => repeat (first | exact (Kd.C_below HR4.out HB.out) | (with_reducible refine Kd.C_alloc ?_ _) | (with_reducible refine Kd.C_drewN ?_ _) | (with_reducible refine Kd.C_drew ?_))); (case side2 => exact HC4.out); rintro e w23 ⟨rfl, hb⟩; refine ⟨_, rfl, ?_⟩; have n0_ := Aside0.mk (below_step (by repeat (first | (with_reducible first | exact HB.out | apply below_alloc | apply pw_below_drewN | apply below_drew1) | exact HB.out)) hb); clear HB; have HB := n0_; clear n0_; (try clear hb); (try clear hb2); (try clear hk); (try clear hi)))
        go_ret
        exact ⟨by first | rfl | (simp [errW_none, errW_some] <;> rfl) | (simp [*, errW_none, errW_some] <;> rfl), by repeat (first | (with_reducible first | exact HB.out | apply below_alloc | apply pw_below_drewN | apply below_drew1) | exact HB.out)⟩
      ·replace c20 := Bool.eq_false_iff.mpr c20
       subst c20
       have H1 : (some false) = some r := by rw [if_neg (show ¬ (false = true) by decide)] at H; exact H
       clear H
       have H := H1
       clear H1
       obtain rfl := Option.some.inj H
       go_wp2_with (first | ((with_reducible refine gate_callee (f := 52) rfl ?_); refine goesL_ (some 64) rfl rfl Tryd.func52 (by kernel_rfl) rfl #[.string a0, .int .i64 a1, .int .i64 a3, .slice A4 l4.length c4, .bool true] rfl (by (try simp only [List.map_toArray, List.map_cons, List.map_nil]); first | done | rfl | (simp only [List.length_drop, List.length_take]; rfl)) ?_; (with_reducible refine (aircheckref02_both.calls kj6 a0 a1 a3 _ _ l4 true t548 t549 false _ ?side1 ?side2 A19.out).mono ?_); (case side1 => repeat (first | exact (Kd.C_below HR4.out HB.out) | (with_reducible refine Kd.C_alloc ?_ _) | (with_reducible refine Kd.C_drewN ?_ _) | (with_reducible refine Kd.C_drew ?_))); (case side2 => exact HC4.out); rintro e w24 ⟨rfl, hb⟩; refine ⟨_, rfl, ?_⟩; have n0_ := Aside0.mk (below_step (by repeat (first | (with_reducible first | exact HB.out | apply below_alloc | apply pw_below_drewN | apply below_drew1) | exact HB.out)) hb); clear HB; have HB := n0_; clear n0_; (try clear hb); (try clear hb2); (try clear hk); (try clear hi)))
       go_ret
       exact ⟨by first | rfl | (simp [errW_none, errW_some] <;> rfl) | (simp [*, errW_none, errW_some] <;> rfl), by repeat (first | (with_reducible first | exact HB.out | apply below_alloc | apply pw_below_drewN | apply below_drew1) | exact HB.out)⟩
end Go.Proofs.YtlmlimihgohchaaDoor.PD
end
section
/-
  The reference's Verify and VerifyExtension answer what the digest's do.
-/
set_option linter.unusedVariables false
set_option linter.unusedSimpArgs false
namespace Go.Proofs.YtlmlimihgohchaaDoor.RefSpec
open Go.RowKit Go.Proofs.YtlmlimihgohchaaDoorW.PrintWords Go.Proofs.YtlmlimihgohchaaDoorW.PrintLast Go.Proofs.YtlmlimihgohchaaDoorW.PrintMore Go.Proofs.YtlmlimihgohchaaDoor.Ext Go.Proofs.YtlmlimihgohchaaDoor.PD Go.Proofs.YtlmlimihgohchaaDoor.DigSpec
theorem digests_l0 (l : List ByteArray) (hl : l.length ≤ 1000000) : ∀ (d j k : Nat), j + d = l.length → d < k → aircheckref02_Digests.l0 k l (j : Int) = some ((l.drop j).all dig32) := by
  intro d
  induction d with
  | zero =>
    intro j k hj hk
    obtain ⟨k, rfl⟩ : ∃ q, k = q + 1 := ⟨k - 1, by omega⟩
    rw [aircheckref02_Digests.l0, if_neg (by omega), List.drop_of_length_le (by omega)]
    rfl
  | succ d ih =>
    intro j k hj hk
    obtain ⟨k, rfl⟩ : ∃ q, k = q + 1 := ⟨k - 1, by omega⟩
    have hjl : j < l.length := by omega
    rw [aircheckref02_Digests.l0, if_pos (by omega), if_pos (by omega), rdOf_nat (List.getElem?_eq_getElem hjl), w64 (by omega) (by omega), show (j : Int) + 1 = ((j + 1 : Nat) : Int) by omega, ih (j + 1) k (by omega) (by omega), List.drop_eq_getElem_cons hjl, List.all_cons]
    by_cases h : (l[j]).size = 32
    · rw [if_pos (by omega), show dig32 l[j] = true by unfold dig32; rw [h]; rfl, Bool.true_and]
    · rw [if_neg (by omega), show dig32 l[j] = false by unfold dig32; exact beq_eq_false_iff_ne.2 h, Bool.false_and]
theorem digests_is (l : List ByteArray) (hl : l.length ≤ 1000000) (k : Nat) (hk : l.length < k) : aircheckref02_Digests.f k l = some (l.all dig32) := by
  unfold aircheckref02_Digests.f
  exact digests_l0 l hl l.length 0 k (by omega) hk
theorem value_is (s : ByteArray) (hs : s.size ≤ 1000) (q : List ByteArray) : ∀ (n i k : Nat), n ≤ 9223372036854775807 → i < n → (∀ x ∈ q, x.size ≤ 1000) → q.length ≤ 1000 → 6000 + q.length < k →
    ∃ v ok, aircheckref02_value.f k (n : Int) (i : Int) s q.reverse = some (v, ok) ∧ v.size ≤ 32 ∧ Tree.value dL dN n i s q = if ok then some v else none := by
  induction q with
  | nil =>
    intro n i k hn hi hq hl hk
    obtain ⟨k, rfl⟩ : ∃ q, k = q + 1 := ⟨k - 1, by omega⟩
    have e : wrap64 (((([] : List ByteArray).reverse).length : Int) - 1) = -1 := by rw [w64 (by simp) (by simp)]; rfl
    rw [aircheckref02_value.f, e]
    by_cases h1 : n = 1
    · subst h1
      rw [if_pos (by omega), ref_leaf s (by omega) k (by omega)]
      exact ⟨dL s, true, rfl, by rw [hash_size]; omega, Tree.value_one_nil _ _ _ _⟩
    · rw [if_neg (by omega), if_pos (by omega)]
      exact ⟨_, false, rfl, by decide, Tree.value_nil _ _ h1 _ _⟩
  | cons x q ih =>
    intro n i k hn hi hq hl hk
    obtain ⟨k, rfl⟩ : ∃ q, k = q + 1 := ⟨k - 1, by omega⟩
    have hx := hq x (by simp)
    have hq' : ∀ y ∈ q, y.size ≤ 1000 := fun y hy => hq y (by simp [hy])
    simp only [List.length_cons] at hl hk
    have hlen : ((x :: q).reverse.length : Int) = ((q.length : Nat) : Int) + 1 := by simp
    have e : wrap64 (((x :: q).reverse.length : Int) - 1) = ((q.length : Nat) : Int) := by rw [hlen, w64 (by omega) (by omega)]; omega
    have hlast : rdOf ByteArray.empty (x :: q).reverse ((q.length : Nat) : Int) = x := rdOf_nat (by simp)
    have htake : (x :: q).reverse.take q.length = q.reverse := by simp
    rw [aircheckref02_value.f, e, hlen]
    by_cases h1 : n = 1
    · subst h1
      rw [if_pos (by omega), ref_leaf s (by omega) k (by omega)]
      refine ⟨dL s, false, ?_, by rw [hash_size]; omega, ?_⟩
      · rw [Option.bind_some, decide_eq_false (by omega)]
        rfl
      · rw [Tree.value_one, if_neg (by simp)]; rfl
    · have hlt := Tree.left_lt (n := n) (by omega)
      have hp := Tree.left_pos n
      rw [if_neg (by omega), if_neg (by omega), rleft_is n k (by omega) hn (by omega), Option.bind_some]
      by_cases hi1 : i < Tree.left n
      · obtain ⟨v, ok, h1', h2, h3⟩ := ih (Tree.left n) i k (by omega) hi1 hq' (by omega) (by omega)
        rw [if_pos (by omega), if_pos (by omega), if_pos (by omega), Int.toNat_natCast, htake, h1', Option.bind_some, if_pos (by omega), hlast, ref_node v x (by omega) hx k (by omega), Option.bind_some]
        refine ⟨_, ok, rfl, by rw [hash_size]; omega, ?_⟩
        rw [Tree.value_low _ _ h1 hi1, h3]
        cases ok <;> rfl
      · obtain ⟨v, ok, h1', h2, h3⟩ := ih (n - Tree.left n) (i - Tree.left n) k (by omega) (by omega) hq' (by omega) (by omega)
        rw [if_neg (by omega), if_pos (by omega), if_pos (by omega), Int.toNat_natCast, htake, w64 (x := (n : Int) - _) (by omega) (by omega), w64 (x := (i : Int) - _) (by omega) (by omega), show (n : Int) - (Tree.left n : Nat) = ((n - Tree.left n : Nat) : Int) by omega, show (i : Int) - (Tree.left n : Nat) = ((i - Tree.left n : Nat) : Int) by omega, h1', Option.bind_some, if_pos (by omega), hlast, ref_node x v hx (by omega) k (by omega), Option.bind_some]
        refine ⟨_, ok, rfl, by rw [hash_size]; omega, ?_⟩
        rw [Tree.value_high _ _ h1 (by omega), h3]
        cases ok <;> rfl
theorem ref_verify (r : ByteArray) (n i : Int) (s : ByteArray) (l : List ByteArray) (hs : s.size ≤ 1000) (hl : l.length ≤ 1000) (hq : ∀ x ∈ l, x.size ≤ 1000) (hn : n ≤ 9223372036854775807) (k : Nat) (hk : 8000 ≤ k) :
    aircheckref02_Verify.f k r n i s l = some (verifyB r n i s l) := by
  unfold aircheckref02_Verify.f verifyB
  rw [digests_is l (by omega) k (by omega), Option.bind_some]
  by_cases h0 : i < 0
  · rw [if_pos h0, decide_eq_false (show ¬ (0 ≤ i ∧ i < n) by omega), Bool.false_and]
  · rw [if_neg h0]
    by_cases h1 : i ≥ n
    · rw [if_pos h1, decide_eq_false (show ¬ (0 ≤ i ∧ i < n) by omega), Bool.false_and]
    · rw [if_neg h1, decide_eq_true (show 0 ≤ i ∧ i < n by omega), Bool.true_and]
      cases l.all dig32 with
      | false => rw [if_neg (by decide), Bool.false_and]
      | true =>
        obtain ⟨n', rfl⟩ := Int.eq_ofNat_of_zero_le (show 0 ≤ n by omega)
        obtain ⟨i', rfl⟩ := Int.eq_ofNat_of_zero_le (show 0 ≤ i by omega)
        obtain ⟨v, ok, e1, e2, e3⟩ := value_is s hs l.reverse n' i' k (by omega) (by omega) (fun x hx => hq x (List.mem_reverse.1 hx)) (by simp; omega) (by simp; omega)
        rw [List.reverse_reverse] at e1
        rw [if_pos rfl, e1, Option.bind_some, Int.toNat_natCast, Int.toNat_natCast, e3, Bool.true_and, toList_beq]
        cases ok with
        | true => rw [if_pos rfl, if_pos rfl]; simp
        | false => rw [if_neg (by simp), if_neg (by simp)]; simp
theorem both_is (o : ByteArray) (ho : o.size ≤ 1000) (q : List ByteArray) : ∀ (m n k : Nat) (whole : Bool), n ≤ 9223372036854775807 → 1 ≤ m → m ≤ n → (∀ x ∈ q, x.size ≤ 1000) → q.length ≤ 1000 → 6000 + q.length < k →
    ∃ a b ok, aircheckref02_both.f k o (m : Int) (n : Int) q.reverse whole = some (a, b, ok) ∧ a.size ≤ 1000 ∧ b.size ≤ 1000 ∧ Tree.both dN o m n q whole = if ok then some (a, b) else none := by
  induction q with
  | nil =>
    intro m n k whole hn hm hmn hq hl hk
    obtain ⟨k, rfl⟩ : ∃ q, k = q + 1 := ⟨k - 1, by omega⟩
    have e : wrap64 (((([] : List ByteArray).reverse).length : Int) - 1) = -1 := by rw [w64 (by simp) (by simp)]; rfl
    rw [aircheckref02_both.f, e]
    by_cases h1 : m = n
    · rw [if_pos (by omega)]
      cases whole with
      | true =>
        rw [if_pos rfl]
        exact ⟨o, o, true, rfl, ho, ho, by rw [Tree.both_whole _ (by omega), if_pos rfl]; rfl⟩
      | false =>
        rw [if_neg (by decide), if_neg (by decide)]
        exact ⟨_, _, false, rfl, by decide, by decide, by rw [Tree.both_part _ (by omega)]; rfl⟩
    · rw [if_neg (by omega), if_pos (by omega)]
      exact ⟨_, _, false, rfl, by decide, by decide, Tree.both_nil _ (by omega) _⟩
  | cons x q ih =>
    intro m n k whole hn hm hmn hq hl hk
    obtain ⟨k, rfl⟩ : ∃ q, k = q + 1 := ⟨k - 1, by omega⟩
    have hx := hq x (by simp)
    have hq' : ∀ y ∈ q, y.size ≤ 1000 := fun y hy => hq y (by simp [hy])
    simp only [List.length_cons] at hl hk
    have hlen : ((x :: q).reverse.length : Int) = ((q.length : Nat) : Int) + 1 := by simp
    have e : wrap64 (((x :: q).reverse.length : Int) - 1) = ((q.length : Nat) : Int) := by rw [hlen, w64 (by omega) (by omega)]; omega
    have hlast : rdOf ByteArray.empty (x :: q).reverse ((q.length : Nat) : Int) = x := rdOf_nat (by simp)
    have htake : (x :: q).reverse.take q.length = q.reverse := by simp
    rw [aircheckref02_both.f, e, hlen]
    by_cases h1 : m = n
    · rw [if_pos (by omega)]
      cases whole with
      | true =>
        rw [if_pos rfl, decide_eq_false (by omega)]
        exact ⟨o, o, false, rfl, ho, ho, by rw [Tree.both_whole _ (by omega), if_neg (by simp)]; rfl⟩
      | false =>
        rw [if_neg (by decide)]
        cases q with
        | nil =>
          rw [if_pos (by simp), if_pos (by simp)]
          exact ⟨x, x, true, rfl, hx, hx, by rw [Tree.both_part _ (by omega)]; rfl⟩
        | cons y q =>
          rw [if_neg (by simp; omega)]
          exact ⟨_, _, false, rfl, by decide, by decide, by rw [Tree.both_part _ (by omega)]; rfl⟩
    · have hlt := Tree.left_lt (n := n) (by omega)
      have hp := Tree.left_pos n
      rw [if_neg (by omega), if_neg (by omega), rleft_is n k (by omega) hn (by omega), Option.bind_some]
      by_cases hi1 : m ≤ Tree.left n
      · obtain ⟨a, b, ok, h1', h2, h2', h3⟩ := ih m (Tree.left n) k whole (by omega) hm hi1 hq' (by omega) (by omega)
        rw [if_pos (by omega), if_pos (by omega), if_pos (by omega), Int.toNat_natCast, htake, h1', Option.bind_some, if_pos (by omega), hlast, ref_node b x h2' hx k (by omega), Option.bind_some]
        refine ⟨a, _, ok, rfl, h2, by rw [hash_size]; omega, ?_⟩
        rw [Tree.both_low _ (by omega) hi1, h3]
        cases ok <;> rfl
      · obtain ⟨a, b, ok, h1', h2, h2', h3⟩ := ih (m - Tree.left n) (n - Tree.left n) k false (by omega) (by omega) (by omega) hq' (by omega) (by omega)
        rw [if_neg (by omega), if_pos (by omega), if_pos (by omega), Int.toNat_natCast, htake, w64 (x := (m : Int) - _) (by omega) (by omega), w64 (x := (n : Int) - _) (by omega) (by omega), show (m : Int) - (Tree.left n : Nat) = ((m - Tree.left n : Nat) : Int) by omega, show (n : Int) - (Tree.left n : Nat) = ((n - Tree.left n : Nat) : Int) by omega, h1', Option.bind_some, if_pos (by omega), hlast, ref_node x a hx h2 k (by omega), Option.bind_some, ref_node x b hx h2' k (by omega), Option.bind_some]
        refine ⟨_, _, ok, rfl, by rw [hash_size]; omega, by rw [hash_size]; omega, ?_⟩
        rw [Tree.both_high _ (by omega) (by omega), h3]
        cases ok <;> rfl
theorem ref_verext (o : ByteArray) (m : Int) (r : ByteArray) (n : Int) (l : List ByteArray) (hl : l.length ≤ 1000) (hq : ∀ x ∈ l, x.size ≤ 1000) (hn : n ≤ 9223372036854775807) (k : Nat) (hk : 8000 ≤ k) :
    aircheckref02_VerifyExtension.f k o m r n l = some (extB o m r n l) := by
  obtain ⟨k, rfl⟩ : ∃ q, k = q + 1 := ⟨k - 1, by omega⟩
  unfold aircheckref02_VerifyExtension.f extB
  rw [digests_is l (by omega) _ (by omega), Option.bind_some]
  have hno : aircheckref02_VerifyExtension.j0 (k + 1) o m r n l true = some false := by rw [aircheckref02_VerifyExtension.j0, if_pos rfl]
  by_cases h0 : m < 0
  · rw [if_pos h0, hno, decide_eq_false (show ¬ (0 ≤ m ∧ m ≤ n) by omega), Bool.false_and]
  · rw [if_neg h0]
    by_cases h1 : m > n
    · rw [if_pos h1, hno, decide_eq_false (show ¬ (0 ≤ m ∧ m ≤ n) by omega), Bool.false_and]
    · rw [if_neg h1, decide_eq_true (show 0 ≤ m ∧ m ≤ n by omega), Bool.true_and]
      cases hall : l.all dig32 with
      | false => rw [if_neg (by decide), hno, Bool.false_and]
      | true =>
        rw [if_pos rfl, Bool.true_and]
        by_cases ho : o.size = 32
        · rw [if_pos (by omega), show dig32 o = true by unfold dig32; rw [ho]; rfl, Bool.true_and]
          by_cases hr : r.size = 32
          · rw [show ((r.size : Int) != 32) = false by rw [hr]; rfl, show dig32 r = true by unfold dig32; rw [hr]; rfl, Bool.true_and, aircheckref02_VerifyExtension.j0, if_neg (by decide)]
            by_cases hm0 : m = 0
            · rw [if_pos hm0, if_pos hm0]
              by_cases hl0 : l = []
              · subst hl0
                rw [if_pos (by simp), refsum_is _ (by decide) _ (by have hz : (⟨#[]⟩ : ByteArray).size = 0 := rfl; omega), Option.bind_some, toList_beq]
                simp
              · rw [if_neg (by simpa using hl0)]
                simp [hl0]
            · rw [if_neg hm0, if_neg hm0]
              obtain ⟨m', rfl⟩ := Int.eq_ofNat_of_zero_le (show 0 ≤ m by omega)
              obtain ⟨n', rfl⟩ := Int.eq_ofNat_of_zero_le (show 0 ≤ n by omega)
              rw [Int.toNat_natCast, Int.toNat_natCast]
              by_cases hmn : (m' : Int) = (n' : Int)
              · rw [if_pos hmn, Tree.both_whole _ (by omega)]
                by_cases hl0 : l = []
                · subst hl0
                  rw [if_pos (by simp), toList_beq, if_pos (by simp)]
                  simp
                · rw [if_neg (by simpa using hl0), if_neg (by simpa using hl0)]
                  simp
              · rw [if_neg hmn]
                obtain ⟨a, b, ok, e1, e2, e3, e4⟩ := both_is o (by omega) l.reverse m' n' k true (by omega) (by omega) (by omega) (fun x hx => hq x (List.mem_reverse.1 hx)) (by simp; omega) (by simp; omega)
                rw [List.reverse_reverse] at e1
                rw [e1, Option.bind_some, e4]
                cases ok with
                | false => rw [if_neg (by simp), if_neg (by simp)]; simp
                | true =>
                  rw [if_pos rfl, if_pos rfl, toList_beq]
                  by_cases hab : a = o
                  · subst hab; rw [if_pos rfl]; simp
                  · rw [if_neg (fun e => hab (toList_inj.1 e))]
                    simp [hab]
          · rw [show ((r.size : Int) != 32) = true by rw [bne_iff_ne]; omega, hno, show dig32 r = false by unfold dig32; exact beq_eq_false_iff_ne.2 hr, Bool.false_and]
        · rw [if_neg (by omega), hno, show dig32 o = false by unfold dig32; exact beq_eq_false_iff_ne.2 ho, Bool.false_and]
end Go.Proofs.YtlmlimihgohchaaDoor.RefSpec
end
section
-- Written by a program of this session out of the translation's print; not trusted: checked by the kernel.
namespace Go.Proofs.YtlmlimihgohchaaDoor.PD
open Go.Proofs.YtlmlimihgohchaaDoor.Ext
attribute [local go_sem] u32_signed u32_max
open Go.RowKit Go.Proofs.YtlmlimihgohchaaDoorW.PrintWords Go.Proofs.YtlmlimihgohchaaDoorW.PrintLast Go.Proofs.YtlmlimihgohchaaDoorW.PrintMore
attribute [local go_sem] max2_int min2_int max_two min_two max_three min_three max_four min_four   -- for this text's walks alone
set_option linter.unusedVariables false
set_option linter.unusedSimpArgs false
/-! ### airchecklaw02_DigestVerifyMatchesReference: function 4 -/
def airchecklaw02_DigestVerifyMatchesReference.f (k : Nat) (a0 : ByteArray) (a1 : ByteArray) (a2 : Int) (a3 : Int) (a4 : ByteArray) (l5 : List ByteArray) : Option (Bool) := (airchecklaw02_sane.f k).bind fun t551 => ((airchecklaw02_few.f k l5 70).bind fun t552 => (if 0 ≤ (mn (a4.size : Int) 60) then (if (mn (a4.size : Int) 60) ≤ (a4.size : Int) then ((digest_Verify.f a1 a2 a3 (a4.extract 0 ((mn (a4.size : Int) 60) : Int).toNat) t552).bind fun t555 => ((aircheckref02_Verify.f k a1 a2 a3 (a4.extract 0 ((mn (a4.size : Int) 60) : Int).toNat) t552).bind fun t556 => (if t551 = true then (if (t555 == t556) = true then ((digest_VerifyExtension.f a0 a3 a1 a2 t552).bind fun t557 => ((aircheckref02_VerifyExtension.f k a0 a3 a1 a2 t552).bind fun t558 => (some (t557 == t558)))) else (some false)) else (some false)))) else (none)) else (none)))
set_option maxHeartbeats 8000000 in
set_option maxRecDepth 100000 in
theorem airchecklaw02_DigestVerifyMatchesReference.calls (k : Nat) (a0 : ByteArray) (a1 : ByteArray) (a2 : Int) (a3 : Int) (a4 : ByteArray) (A5 : Option Addr) (c5 : Nat) (l5 : List ByteArray) (r : Bool) (w : World) (hr5 : Kd.C Kd.string w A5 l5.length l5) (hc5 : l5.length ≤ c5) (hG : GL w) (h : airchecklaw02_DigestVerifyMatchesReference.f k a0 a1 a2 a3 a4 l5 = some r) :
  Calls Tryd.prog 4 #[.string a0, .string a1, .int .i64 a2, .int .i64 a3, .string a4, .slice A5 l5.length c5] w fun e w' => e = .returned (.bool r) ∧ Below w.heap.size w w' := by
 have HR5 := Aside0.mk hr5
 have HC5 := Aside0.mk hc5
 clear hr5 hc5
 have HB := Aside0.mk (Below.refl w.heap.size w)
 have H : ((airchecklaw02_sane.f k).bind fun t551 => ((airchecklaw02_few.f k l5 70).bind fun t552 => (if 0 ≤ (mn (a4.size : Int) 60) then (if (mn (a4.size : Int) 60) ≤ (a4.size : Int) then ((digest_Verify.f a1 a2 a3 (a4.extract 0 ((mn (a4.size : Int) 60) : Int).toNat) t552).bind fun t555 => ((aircheckref02_Verify.f k a1 a2 a3 (a4.extract 0 ((mn (a4.size : Int) 60) : Int).toNat) t552).bind fun t556 => (if t551 = true then (if (t555 == t556) = true then ((digest_VerifyExtension.f a0 a3 a1 a2 t552).bind fun t557 => ((aircheckref02_VerifyExtension.f k a0 a3 a1 a2 t552).bind fun t558 => (some (t557 == t558)))) else (some false)) else (some false)))) else (none)) else (none)))) = some r := h
 clear h
 replace H := Option.bind_eq_some_iff.mp H
 obtain ⟨t551, A70, H⟩ := H
 replace H : ((airchecklaw02_few.f k l5 70).bind fun t552 => (if 0 ≤ (mn (a4.size : Int) 60) then (if (mn (a4.size : Int) 60) ≤ (a4.size : Int) then ((digest_Verify.f a1 a2 a3 (a4.extract 0 ((mn (a4.size : Int) 60) : Int).toNat) t552).bind fun t555 => ((aircheckref02_Verify.f k a1 a2 a3 (a4.extract 0 ((mn (a4.size : Int) 60) : Int).toNat) t552).bind fun t556 => (if t551 = true then (if (t555 == t556) = true then ((digest_VerifyExtension.f a0 a3 a1 a2 t552).bind fun t557 => ((aircheckref02_VerifyExtension.f k a0 a3 a1 a2 t552).bind fun t558 => (some (t557 == t558)))) else (some false)) else (some false)))) else (none)) else (none))) = some r := H
 have A7 := Aside0.mk A70
 clear A70
 replace H := Option.bind_eq_some_iff.mp H
 obtain ⟨t552, A80, H⟩ := H
 replace H : (if 0 ≤ (mn (a4.size : Int) 60) then (if (mn (a4.size : Int) 60) ≤ (a4.size : Int) then ((digest_Verify.f a1 a2 a3 (a4.extract 0 ((mn (a4.size : Int) 60) : Int).toNat) t552).bind fun t555 => ((aircheckref02_Verify.f k a1 a2 a3 (a4.extract 0 ((mn (a4.size : Int) 60) : Int).toNat) t552).bind fun t556 => (if t551 = true then (if (t555 == t556) = true then ((digest_VerifyExtension.f a0 a3 a1 a2 t552).bind fun t557 => ((aircheckref02_VerifyExtension.f k a0 a3 a1 a2 t552).bind fun t558 => (some (t557 == t558)))) else (some false)) else (some false)))) else (none)) else (none)) = some r := H
 have A8 := Aside0.mk A80
 clear A80
 obtain ⟨ji9, hji9⟩ : ∃ j_ : Int, (mn (a4.size : Int) 60) = j_ := ⟨_, rfl⟩
 replace H : (if 0 ≤ (ji9) then (if (ji9) ≤ (a4.size : Int) then ((digest_Verify.f a1 a2 a3 (a4.extract 0 ((ji9) : Int).toNat) t552).bind fun t555 => ((aircheckref02_Verify.f k a1 a2 a3 (a4.extract 0 ((ji9) : Int).toNat) t552).bind fun t556 => (if t551 = true then (if (t555 == t556) = true then ((digest_VerifyExtension.f a0 a3 a1 a2 t552).bind fun t557 => ((aircheckref02_VerifyExtension.f k a0 a3 a1 a2 t552).bind fun t558 => (some (t557 == t558)))) else (some false)) else (some false)))) else (none)) else (none)) = some r := by first | (rw [hji9] at H; exact H) | (simp only [hji9] at H ⊢; exact H)
 (try rw [hji9] at A7)
 (try rw [hji9] at A8)
 (try (have hji9h : ji9 ≤ 60 := by (rw [← hji9]; unfold mn; (repeat' split) <;> omega)))
 (try (have hji9g : ji9 ≤ 64 := by omega))
 (try (have hji9l : 0 ≤ ji9 := by (rw [← hji9]; unfold mn; (repeat' split) <;> omega)))
 (try (have hji9m : 0 ≤ ji9 := by omega))
 have hji9_ : (if 60 < (a4.size : Int) then 60 else (a4.size : Int)) = ji9 := hji9
 by_cases c10 : 0 ≤ (ji9)
 ·rw [if_pos c10] at H
  have c10b0 := eq_true c10
  have c10b1 : decide (0 ≤ (ji9)) = true := decide_eq_true c10
  clear c10
  by_cases c11 : (ji9) ≤ (a4.size : Int)
  ·rw [if_pos c11] at H
   have c11b0 := eq_true c11
   have c11b1 : decide ((ji9) ≤ (a4.size : Int)) = true := decide_eq_true c11
   clear c11
   obtain ⟨js12, hjs12⟩ : ∃ s_ : ByteArray, (a4.extract 0 ((ji9) : Int).toNat) = s_ := ⟨_, rfl⟩
   replace H : ((digest_Verify.f a1 a2 a3 js12 t552).bind fun t555 => ((aircheckref02_Verify.f k a1 a2 a3 js12 t552).bind fun t556 => (if t551 = true then (if (t555 == t556) = true then ((digest_VerifyExtension.f a0 a3 a1 a2 t552).bind fun t557 => ((aircheckref02_VerifyExtension.f k a0 a3 a1 a2 t552).bind fun t558 => (some (t557 == t558)))) else (some false)) else (some false)))) = some r := by first | (rw [hjs12] at H; exact H) | (simp only [hjs12] at H ⊢; exact H) | exact H
   replace H := Option.bind_eq_some_iff.mp H
   obtain ⟨t555, A130, H⟩ := H
   replace H : ((aircheckref02_Verify.f k a1 a2 a3 js12 t552).bind fun t556 => (if t551 = true then (if (t555 == t556) = true then ((digest_VerifyExtension.f a0 a3 a1 a2 t552).bind fun t557 => ((aircheckref02_VerifyExtension.f k a0 a3 a1 a2 t552).bind fun t558 => (some (t557 == t558)))) else (some false)) else (some false))) = some r := H
   have A13 := Aside0.mk A130
   clear A130
   replace H := Option.bind_eq_some_iff.mp H
   obtain ⟨t556, A140, H⟩ := H
   replace H : (if t551 = true then (if (t555 == t556) = true then ((digest_VerifyExtension.f a0 a3 a1 a2 t552).bind fun t557 => ((aircheckref02_VerifyExtension.f k a0 a3 a1 a2 t552).bind fun t558 => (some (t557 == t558)))) else (some false)) else (some false)) = some r := H
   have A14 := Aside0.mk A140
   clear A140
   by_cases c15 : t551 = true
   ·subst c15
    have H1 : (if (t555 == t556) = true then ((digest_VerifyExtension.f a0 a3 a1 a2 t552).bind fun t557 => ((aircheckref02_VerifyExtension.f k a0 a3 a1 a2 t552).bind fun t558 => (some (t557 == t558)))) else (some false)) = some r := by rw [if_pos rfl] at H; exact H
    clear H
    have H := H1
    clear H1
    by_cases c16 : (t555 == t556) = true
    ·rw [if_pos c16] at H
     have c16b0 : (t555 == t556) = true := c16
     (try (have c16b1 : decide (t555 = t556) = true := by simpa using c16))
     (try (have c16b2 : (t555 == t556) = true := by simpa using c16))
     clear c16
     replace H := Option.bind_eq_some_iff.mp H
     obtain ⟨t557, A170, H⟩ := H
     replace H : ((aircheckref02_VerifyExtension.f k a0 a3 a1 a2 t552).bind fun t558 => (some (t557 == t558))) = some r := H
     have A17 := Aside0.mk A170
     clear A170
     replace H := Option.bind_eq_some_iff.mp H
     obtain ⟨t558, A180, H⟩ := H
     replace H : (some (t557 == t558)) = some r := H
     have A18 := Aside0.mk A180
     clear A180
     obtain rfl := Option.some.inj H
     go_enter Tryd.func4, Tryd.ntmps4
     go_wp2_with (first | ((with_reducible refine gate_callee (f := 12) rfl ?_); refine goesL_ (some 15) rfl rfl Tryd.func12 (by kernel_rfl) rfl #[] rfl (by (try simp only [List.map_toArray, List.map_cons, List.map_nil]); first | done | rfl | (simp only [List.length_drop, List.length_take]; rfl)) ?_; (with_reducible refine (airchecklaw02_sane.calls k  true _ ?side1 A7.out).mono ?_); (case side1 => first | exact hG | exact GL.below hG (by repeat (first | (with_reducible first | exact HB.out | apply below_alloc | apply pw_below_drewN | apply below_drew1) | exact HB.out))); rintro e w19 ⟨rfl, hb⟩; refine ⟨_, rfl, ?_⟩; have n0_ := Aside0.mk (below_step (by repeat (first | (with_reducible first | exact HB.out | apply below_alloc | apply pw_below_drewN | apply below_drew1) | exact HB.out)) hb); clear HB; have HB := n0_; clear n0_; (try clear hb); (try clear hb2); (try clear hk); (try clear hi)) | ((with_reducible refine gate_callee (f := 13) rfl ?_); refine goesL_ (some 17) rfl rfl Tryd.func13 (by kernel_rfl) rfl #[.slice A5 l5.length c5, .int .i64 70] rfl (by (try simp only [List.map_toArray, List.map_cons, List.map_nil]); first | done | rfl | (simp only [List.length_drop, List.length_take]; rfl)) ?_; (with_reducible refine (airchecklaw02_few.calls k _ _ l5 70 t552 _ ?side1 ?side2 A8.out).mono ?_); (case side1 => repeat (first | exact (Kd.C_below HR5.out HB.out) | (with_reducible refine Kd.C_alloc ?_ _) | (with_reducible refine Kd.C_drewN ?_ _) | (with_reducible refine Kd.C_drew ?_))); (case side2 => exact HC5.out); rintro e w20 ⟨v553, rfl, ho0, hb⟩; refine ⟨_, rfl, ?_⟩; have n0_ := Aside0.mk (Kd.R_lower ho0 (below_size (by repeat (first | (with_reducible first | exact HB.out | apply below_alloc | apply pw_below_drewN | apply below_drew1) | exact HB.out)))); have n1_ := Aside0.mk (below_step (by repeat (first | (with_reducible first | exact HB.out | apply below_alloc | apply pw_below_drewN | apply below_drew1) | exact HB.out)) hb); clear HB; have HO554 := n0_; have HB := n1_; clear n0_ n1_; (try clear hb); (try clear hb2); (try clear hk); (try clear hi); (try clear ho0); obtain ⟨Ao21, co21, eo21⟩ := Kd.R_slice HO554.out; subst eo21) | ((with_reducible refine gate_callee (f := 21) rfl ?_); refine goesL_ (some 28) rfl rfl Tryd.func21 (by kernel_rfl) rfl #[.string a1, .int .i64 a2, .int .i64 a3, .string js12, .slice Ao21 t552.length co21] rfl (by (try simp only [List.map_toArray, List.map_cons, List.map_nil]); first | done | rfl | (simp only [List.length_drop, List.length_take]; rfl)) ?_; (with_reducible refine (digest_Verify.calls a1 a2 a3 js12 _ _ t552 t555 _ ?side1 ?side2 ?side3 A13.out).mono ?_); (case side1 => repeat (first | exact (Kd.R_reads' HO554.out).2.2 | (with_reducible refine Kd.C_alloc ?_ _) | (with_reducible refine Kd.C_drewN ?_ _) | (with_reducible refine Kd.C_drew ?_))); (case side2 => exact (Kd.R_reads' HO554.out).2.1); (case side3 => first | exact hG | exact GL.below hG (by repeat (first | (with_reducible first | exact HB.out | apply below_alloc | apply pw_below_drewN | apply below_drew1) | exact HB.out))); rintro e w22 ⟨rfl, hb⟩; refine ⟨_, rfl, ?_⟩; have n0_ := Aside0.mk (Kd.R_below (by (with_reducible repeat (first | apply Kd.R_alloc | apply Kd.R_drewN | apply Kd.R_drew)); exact HO554.out) hb); have n1_ := Aside0.mk (below_step (by repeat (first | (with_reducible first | exact HB.out | apply below_alloc | apply pw_below_drewN | apply below_drew1) | exact HB.out)) hb); clear HO554; clear HB; have HO554 := n0_; have HB := n1_; clear n0_ n1_; (try clear hb); (try clear hb2); (try clear hk); (try clear hi)) | ((with_reducible refine gate_callee (f := 22) rfl ?_); refine goesL_ (some 34) rfl rfl Tryd.func22 (by kernel_rfl) rfl #[.string a1, .int .i64 a2, .int .i64 a3, .string js12, .slice Ao21 t552.length co21] rfl (by (try simp only [List.map_toArray, List.map_cons, List.map_nil]); first | done | rfl | (simp only [List.length_drop, List.length_take]; rfl)) ?_; (with_reducible refine (aircheckref02_Verify.calls k a1 a2 a3 js12 _ _ t552 t556 _ ?side1 ?side2 A14.out).mono ?_); (case side1 => repeat (first | exact (Kd.R_reads' HO554.out).2.2 | (with_reducible refine Kd.C_alloc ?_ _) | (with_reducible refine Kd.C_drewN ?_ _) | (with_reducible refine Kd.C_drew ?_))); (case side2 => exact (Kd.R_reads' HO554.out).2.1); rintro e w23 ⟨rfl, hb⟩; refine ⟨_, rfl, ?_⟩; have n0_ := Aside0.mk (Kd.R_below (by (with_reducible repeat (first | apply Kd.R_alloc | apply Kd.R_drewN | apply Kd.R_drew)); exact HO554.out) hb); have n1_ := Aside0.mk (below_step (by repeat (first | (with_reducible first | exact HB.out | apply below_alloc | apply pw_below_drewN | apply below_drew1) | exact HB.out)) hb); clear HO554; clear HB; have HO554 := n0_; have HB := n1_; clear n0_ n1_; (try clear hb); (try clear hb2); (try clear hk); (try clear hi)) | (go_at_call 23; (with_reducible refine (digest_VerifyExtension.calls a0 a3 a1 a2 _ _ t552 t557 _ ?side1 ?side2 ?side3 A17.out).mono ?_); (case side1 => repeat (first | exact (Kd.R_reads' HO554.out).2.2 | (with_reducible refine Kd.C_alloc ?_ _) | (with_reducible refine Kd.C_drewN ?_ _) | (with_reducible refine Kd.C_drew ?_))); (case side2 => exact (Kd.R_reads' HO554.out).2.1); (case side3 => first | exact hG | exact GL.below hG (by repeat (first | (with_reducible first | exact HB.out | apply below_alloc | apply pw_below_drewN | apply below_drew1) | exact HB.out))); rintro e w24 ⟨rfl, hb⟩; have n0_ := Aside0.mk (Kd.R_below (by (with_reducible repeat (first | apply Kd.R_alloc | apply Kd.R_drewN | apply Kd.R_drew)); exact HO554.out) hb); have n1_ := Aside0.mk (below_step (by repeat (first | (with_reducible first | exact HB.out | apply below_alloc | apply pw_below_drewN | apply below_drew1) | exact HB.out)) hb); clear HO554; clear HB; have HO554 := n0_; have HB := n1_; clear n0_ n1_; (try clear hb); (try clear hb2); (try clear hk); (try clear hi)) | (go_at_call 24; (with_reducible refine (aircheckref02_VerifyExtension.calls k a0 a3 a1 a2 _ _ t552 t558 _ ?side1 ?side2 A18.out).mono ?_); (case side1 => repeat (first | exact (Kd.R_reads' HO554.out).2.2 | (with_reducible refine Kd.C_alloc ?_ _) | (with_reducible refine Kd.C_drewN ?_ _) | (with_reducible refine Kd.C_drew ?_))); (case side2 => exact (Kd.R_reads' HO554.out).2.1); rintro e w25 ⟨rfl, hb⟩; have n0_ := Aside0.mk (Kd.R_below (by (with_reducible repeat (first | apply Kd.R_alloc | apply Kd.R_drewN | apply Kd.R_drew)); exact HO554.out) hb); have n1_ := Aside0.mk (below_step (by repeat (first | (with_reducible first | exact HB.out | apply below_alloc | apply pw_below_drewN | apply below_drew1) | exact HB.out)) hb); clear HO554; clear HB; have HO554 := n0_; have HB := n1_; clear n0_ n1_; (try clear hb); (try clear hb2); (try clear hk); (try clear hi)))
     go_ret
     exact ⟨by first | rfl | (simp [errW_none, errW_some] <;> rfl) | (simp only [← hji9, ← hjs12]; first | rfl | (simp [errW_none, errW_some] <;> rfl)) | (simp [*, errW_none, errW_some] <;> rfl), by repeat (first | (with_reducible first | exact HB.out | apply below_alloc | apply pw_below_drewN | apply below_drew1) | exact HB.out)⟩
    ·rw [if_neg c16] at H
     have c16b0 : (t555 == t556) = false := by simpa using c16
     (try (have c16b1 : decide (t555 = t556) = false := by simpa using c16))
     (try (have c16b2 : (t555 == t556) = false := by simpa using c16))
     (try (have c16b3 : ¬ (t555 = t556) := by simpa using c16))
     clear c16
     obtain rfl := Option.some.inj H
     go_enter Tryd.func4, Tryd.ntmps4
     go_wp2_with (first | ((with_reducible refine gate_callee (f := 12) rfl ?_); refine goesL_ (some 15) rfl rfl Tryd.func12 (by kernel_rfl) rfl #[] rfl (by (try simp only [List.map_toArray, List.map_cons, List.map_nil]); first | done | rfl | (simp only [List.length_drop, List.length_take]; rfl)) ?_; (with_reducible refine (airchecklaw02_sane.calls k  true _ ?side1 A7.out).mono ?_); (case side1 => first | exact hG | exact GL.below hG (by repeat (first | (with_reducible first | exact HB.out | apply below_alloc | apply pw_below_drewN | apply below_drew1) | exact HB.out))); rintro e w26 ⟨rfl, hb⟩; refine ⟨_, rfl, ?_⟩; have n0_ := Aside0.mk (below_step (by repeat (first | (with_reducible first | exact HB.out | apply below_alloc | apply pw_below_drewN | apply below_drew1) | exact HB.out)) hb); clear HB; have HB := n0_; clear n0_; (try clear hb); (try clear hb2); (try clear hk); (try clear hi)) | ((with_reducible refine gate_callee (f := 13) rfl ?_); refine goesL_ (some 17) rfl rfl Tryd.func13 (by kernel_rfl) rfl #[.slice A5 l5.length c5, .int .i64 70] rfl (by (try simp only [List.map_toArray, List.map_cons, List.map_nil]); first | done | rfl | (simp only [List.length_drop, List.length_take]; rfl)) ?_; (with_reducible refine (airchecklaw02_few.calls k _ _ l5 70 t552 _ ?side1 ?side2 A8.out).mono ?_); (case side1 => repeat (first | exact (Kd.C_below HR5.out HB.out) | (with_reducible refine Kd.C_alloc ?_ _) | (with_reducible refine Kd.C_drewN ?_ _) | (with_reducible refine Kd.C_drew ?_))); (case side2 => exact HC5.out); rintro e w27 ⟨v553, rfl, ho0, hb⟩; refine ⟨_, rfl, ?_⟩; have n0_ := Aside0.mk (Kd.R_lower ho0 (below_size (by repeat (first | (with_reducible first | exact HB.out | apply below_alloc | apply pw_below_drewN | apply below_drew1) | exact HB.out)))); have n1_ := Aside0.mk (below_step (by repeat (first | (with_reducible first | exact HB.out | apply below_alloc | apply pw_below_drewN | apply below_drew1) | exact HB.out)) hb); clear HB; have HO554 := n0_; have HB := n1_; clear n0_ n1_; (try clear hb); (try clear hb2); (try clear hk); (try clear hi); (try clear ho0); obtain ⟨Ao28, co28, eo28⟩ := Kd.R_slice HO554.out; subst eo28) | ((with_reducible refine gate_callee (f := 21) rfl ?_); refine goesL_ (some 28) rfl rfl Tryd.func21 (by kernel_rfl) rfl #[.string a1, .int .i64 a2, .int .i64 a3, .string js12, .slice Ao28 t552.length co28] rfl (by (try simp only [List.map_toArray, List.map_cons, List.map_nil]); first | done | rfl | (simp only [List.length_drop, List.length_take]; rfl)) ?_; (with_reducible refine (digest_Verify.calls a1 a2 a3 js12 _ _ t552 t555 _ ?side1 ?side2 ?side3 A13.out).mono ?_); (case side1 => repeat (first | exact (Kd.R_reads' HO554.out).2.2 | (with_reducible refine Kd.C_alloc ?_ _) | (with_reducible refine Kd.C_drewN ?_ _) | (with_reducible refine Kd.C_drew ?_))); (case side2 => exact (Kd.R_reads' HO554.out).2.1); (case side3 => first | exact hG | exact GL.below hG (by repeat (first | (with_reducible first | exact HB.out | apply below_alloc | apply pw_below_drewN | apply below_drew1) | exact HB.out))); rintro e w29 ⟨rfl, hb⟩; refine ⟨_, rfl, ?_⟩; have n0_ := Aside0.mk (Kd.R_below (by (with_reducible repeat (first | apply Kd.R_alloc | apply Kd.R_drewN | apply Kd.R_drew)); exact HO554.out) hb); have n1_ := Aside0.mk (below_step (by repeat (first | (with_reducible first | exact HB.out | apply below_alloc | apply pw_below_drewN | apply below_drew1) | exact HB.out)) hb); clear HO554; clear HB; have HO554 := n0_; have HB := n1_; clear n0_ n1_; (try clear hb); (try clear hb2); (try clear hk); (try clear hi)) | ((with_reducible refine gate_callee (f := 22) rfl ?_); refine goesL_ (some 34) rfl rfl Tryd.func22 (by kernel_rfl) rfl #[.string a1, .int .i64 a2, .int .i64 a3, .string js12, .slice Ao28 t552.length co28] rfl (by (try simp only [List.map_toArray, List.map_cons, List.map_nil]); first | done | rfl | (simp only [List.length_drop, List.length_take]; rfl)) ?_; (with_reducible refine (aircheckref02_Verify.calls k a1 a2 a3 js12 _ _ t552 t556 _ ?side1 ?side2 A14.out).mono ?_); (case side1 => repeat (first | exact (Kd.R_reads' HO554.out).2.2 | (with_reducible refine Kd.C_alloc ?_ _) | (with_reducible refine Kd.C_drewN ?_ _) | (with_reducible refine Kd.C_drew ?_))); (case side2 => exact (Kd.R_reads' HO554.out).2.1); rintro e w30 ⟨rfl, hb⟩; refine ⟨_, rfl, ?_⟩; have n0_ := Aside0.mk (Kd.R_below (by (with_reducible repeat (first | apply Kd.R_alloc | apply Kd.R_drewN | apply Kd.R_drew)); exact HO554.out) hb); have n1_ := Aside0.mk (below_step (by repeat (first | (with_reducible first | exact HB.out | apply below_alloc | apply pw_below_drewN | apply below_drew1) | exact HB.out)) hb); clear HO554; clear HB; have HO554 := n0_; have HB := n1_; clear n0_ n1_; (try clear hb); (try clear hb2); (try clear hk); (try clear hi)))
     go_ret
     exact ⟨by first | rfl | (simp [errW_none, errW_some] <;> rfl) | (simp only [← hji9, ← hjs12]; first | rfl | (simp [errW_none, errW_some] <;> rfl)) | (simp [*, errW_none, errW_some] <;> rfl), by repeat (first | (with_reducible first | exact HB.out | apply below_alloc | apply pw_below_drewN | apply below_drew1) | exact HB.out)⟩
   ·replace c15 := Bool.eq_false_iff.mpr c15
    subst c15
    have H1 : (some false) = some r := by rw [if_neg (show ¬ (false = true) by decide)] at H; exact H
    clear H
    have H := H1
    clear H1
    obtain rfl := Option.some.inj H
    go_enter Tryd.func4, Tryd.ntmps4
    go_wp2_with (first | ((with_reducible refine gate_callee (f := 12) rfl ?_); refine goesL_ (some 15) rfl rfl Tryd.func12 (by kernel_rfl) rfl #[] rfl (by (try simp only [List.map_toArray, List.map_cons, List.map_nil]); first | done | rfl | (simp only [List.length_drop, List.length_take]; rfl)) ?_; (with_reducible refine (airchecklaw02_sane.calls k  false _ ?side1 A7.out).mono ?_); (case side1 => first | exact hG | exact GL.below hG (by repeat (first | (with_reducible first | exact HB.out | apply below_alloc | apply pw_below_drewN | apply below_drew1) | exact HB.out))); rintro e w31 ⟨rfl, hb⟩; refine ⟨_, rfl, ?_⟩; have n0_ := Aside0.mk (below_step (by repeat (first | (with_reducible first | exact HB.out | apply below_alloc | apply pw_below_drewN | apply below_drew1) | exact HB.out)) hb); clear HB; have HB := n0_; clear n0_; (try clear hb); (try clear hb2); (try clear hk); (try clear hi)) | ((with_reducible refine gate_callee (f := 13) rfl ?_); refine goesL_ (some 17) rfl rfl Tryd.func13 (by kernel_rfl) rfl #[.slice A5 l5.length c5, .int .i64 70] rfl (by (try simp only [List.map_toArray, List.map_cons, List.map_nil]); first | done | rfl | (simp only [List.length_drop, List.length_take]; rfl)) ?_; (with_reducible refine (airchecklaw02_few.calls k _ _ l5 70 t552 _ ?side1 ?side2 A8.out).mono ?_); (case side1 => repeat (first | exact (Kd.C_below HR5.out HB.out) | (with_reducible refine Kd.C_alloc ?_ _) | (with_reducible refine Kd.C_drewN ?_ _) | (with_reducible refine Kd.C_drew ?_))); (case side2 => exact HC5.out); rintro e w32 ⟨v553, rfl, ho0, hb⟩; refine ⟨_, rfl, ?_⟩; have n0_ := Aside0.mk (Kd.R_lower ho0 (below_size (by repeat (first | (with_reducible first | exact HB.out | apply below_alloc | apply pw_below_drewN | apply below_drew1) | exact HB.out)))); have n1_ := Aside0.mk (below_step (by repeat (first | (with_reducible first | exact HB.out | apply below_alloc | apply pw_below_drewN | apply below_drew1) | exact HB.out)) hb); clear HB; have HO554 := n0_; have HB := n1_; clear n0_ n1_; (try clear hb); (try clear hb2); (try clear hk); (try clear hi); (try clear ho0); obtain ⟨Ao33, co33, eo33⟩ := Kd.R_slice HO554.out; subst eo33) | ((with_reducible refine gate_callee (f := 21) rfl ?_); refine goesL_ (some 28) rfl rfl Tryd.func21 (by kernel_rfl) rfl #[.string a1, .int .i64 a2, .int .i64 a3, .string js12, .slice Ao33 t552.length co33] rfl (by (try simp only [List.map_toArray, List.map_cons, List.map_nil]); first | done | rfl | (simp only [List.length_drop, List.length_take]; rfl)) ?_; (with_reducible refine (digest_Verify.calls a1 a2 a3 js12 _ _ t552 t555 _ ?side1 ?side2 ?side3 A13.out).mono ?_); (case side1 => repeat (first | exact (Kd.R_reads' HO554.out).2.2 | (with_reducible refine Kd.C_alloc ?_ _) | (with_reducible refine Kd.C_drewN ?_ _) | (with_reducible refine Kd.C_drew ?_))); (case side2 => exact (Kd.R_reads' HO554.out).2.1); (case side3 => first | exact hG | exact GL.below hG (by repeat (first | (with_reducible first | exact HB.out | apply below_alloc | apply pw_below_drewN | apply below_drew1) | exact HB.out))); rintro e w34 ⟨rfl, hb⟩; refine ⟨_, rfl, ?_⟩; have n0_ := Aside0.mk (Kd.R_below (by (with_reducible repeat (first | apply Kd.R_alloc | apply Kd.R_drewN | apply Kd.R_drew)); exact HO554.out) hb); have n1_ := Aside0.mk (below_step (by repeat (first | (with_reducible first | exact HB.out | apply below_alloc | apply pw_below_drewN | apply below_drew1) | exact HB.out)) hb); clear HO554; clear HB; have HO554 := n0_; have HB := n1_; clear n0_ n1_; (try clear hb); (try clear hb2); (try clear hk); (try clear hi)) | ((with_reducible refine gate_callee (f := 22) rfl ?_); refine goesL_ (some 34) rfl rfl Tryd.func22 (by kernel_rfl) rfl #[.string a1, .int .i64 a2, .int .i64 a3, .string js12, .slice Ao33 t552.length co33] rfl (by (try simp only [List.map_toArray, List.map_cons, List.map_nil]); first | done | rfl | (simp only [List.length_drop, List.length_take]; rfl)) ?_; (with_reducible refine (aircheckref02_Verify.calls k a1 a2 a3 js12 _ _ t552 t556 _ ?side1 ?side2 A14.out).mono ?_); (case side1 => repeat (first | exact (Kd.R_reads' HO554.out).2.2 | (with_reducible refine Kd.C_alloc ?_ _) | (with_reducible refine Kd.C_drewN ?_ _) | (with_reducible refine Kd.C_drew ?_))); (case side2 => exact (Kd.R_reads' HO554.out).2.1); rintro e w35 ⟨rfl, hb⟩; refine ⟨_, rfl, ?_⟩; have n0_ := Aside0.mk (Kd.R_below (by (with_reducible repeat (first | apply Kd.R_alloc | apply Kd.R_drewN | apply Kd.R_drew)); exact HO554.out) hb); have n1_ := Aside0.mk (below_step (by repeat (first | (with_reducible first | exact HB.out | apply below_alloc | apply pw_below_drewN | apply below_drew1) | exact HB.out)) hb); clear HO554; clear HB; have HO554 := n0_; have HB := n1_; clear n0_ n1_; (try clear hb); (try clear hb2); (try clear hk); (try clear hi)))
    go_ret
    exact ⟨by first | rfl | (simp [errW_none, errW_some] <;> rfl) | (simp only [← hji9, ← hjs12]; first | rfl | (simp [errW_none, errW_some] <;> rfl)) | (simp [*, errW_none, errW_some] <;> rfl), by repeat (first | (with_reducible first | exact HB.out | apply below_alloc | apply pw_below_drewN | apply below_drew1) | exact HB.out)⟩
  ·rw [if_neg c11] at H
   exact absurd H (by simp)
 ·rw [if_neg c10] at H
  exact absurd H (by simp)
end Go.Proofs.YtlmlimihgohchaaDoor.PD
end
section
/-
  Verify and VerifyExtension agree with the reference.
-/
set_option linter.unusedVariables false
set_option linter.unusedSimpArgs false
namespace Go.Proofs.YtlmlimihgohchaaDoor.Pure
open Go.RowKit Go.Proofs.YtlmlimihgohchaaDoorW.PrintWords Go.Proofs.YtlmlimihgohchaaDoorW.PrintLast Go.Proofs.YtlmlimihgohchaaDoorW.PrintMore Go.Proofs.YtlmlimihgohchaaDoor.Ext Go.Proofs.YtlmlimihgohchaaDoor.PD Go.Proofs.YtlmlimihgohchaaDoor.DigSpec Go.Proofs.YtlmlimihgohchaaDoor.RefSpec
theorem DigestVerifyMatchesReference (a0 a1 : ByteArray) (a2 a3 : Int) (a4 : ByteArray) (l5 : List ByteArray) (w0 : a0.size ≤ 140737488351232) (w1 : a1.size ≤ 140737488351232) (w2 : (Lit.int .i64 a2).wf = true) (w3 : (Lit.int .i64 a3).wf = true) (w4 : a4.size ≤ 140737488351232) (w5 : ∀ n ∈ l5, n.size ≤ maxLen) :
    ∃ k, airchecklaw02_DigestVerifyMatchesReference.f k a0 a1 a2 a3 a4 l5 = some true := by
  have r2 := wf64 w2
  have r3 := wf64 w3
  refine ⟨20000, ?_⟩
  obtain ⟨L, hL, lL, sL, eL⟩ := few_ok 20000 l5 70 (by omega) (by omega) 70 rfl
  have fL : fits L := fits_of (by omega) (fun x hx => Nat.le_trans (sL x hx) (by omega))
  have sL' : ∀ x ∈ L, x.size ≤ 1000 := fun x hx => Nat.le_trans (sL x hx) (by omega)
  have m1 : mn (a4.size : Int) 60 = ((min a4.size 60 : Nat) : Int) := mn_is a4 60
  have hs := cut_le a4
  unfold airchecklaw02_DigestVerifyMatchesReference.f
  rw [sane_is _ (by omega), Option.bind_some, hL, Option.bind_some, m1, if_pos (by omega), if_pos (by omega), cut_is]
  generalize cut 60 a4 = s at *
  rw [verify_ok a1 a2 a3 s L fL (by omega) r2 r3, Option.bind_some, ref_verify a1 a2 a3 s L (by omega) (by omega) sL' r2.2 20000 (by omega), Option.bind_some, if_pos rfl, if_pos (by simp),
    ext_ok a0 a3 a1 a2 L fL (by omega) (by omega) r3 r2, Option.bind_some, ref_verext a0 a3 a1 a2 L (by omega) sL' r2.2 20000 (by omega), Option.bind_some]
  simp
end Go.Proofs.YtlmlimihgohchaaDoor.Pure
end
section
/-
  The law DigestVerifyMatchesReference answers true for every input: its row and its tied card. Conditions: the row's own (the listed table reads as the program's start lays it; the card ties that to the program's text).
-/
namespace Go.Proofs.YtlmlimihgohchaaDoor.digestVerifyMatchesReference
open Go.ChangeShapes Go.WideShapes Go.ChangeAt Go.RowKit
open Go.ChangeMaps (open_string shut_string)
set_option linter.unusedVariables false
theorem own : ownKnob Tryd.prog.godebug = none := by kernel_rfl
theorem laidOut : laidOutB Tryd.prog = true := by kernel_rfl
/-- The program's start meets the condition. -/
theorem door_met (os : Os) (args : Array Value) : laidMetH Tryd.prog [("aircheck/digest.round", Rows.laid_aircheck_digest_round)] ((World.doorLaid Tryd.prog 400 os).forCall (fun _ _ => 0) ⟨#[], args, []⟩).memory :=
  laidMetH_of_parts3 (fuel := 8) (laidMet_of_run' 8 (by kernel_rfl) (by kernel_rfl)) (by kernel_rfl) (by kernel_rfl)
set_option maxRecDepth 100000 in
set_option maxHeartbeats 1000000 in
theorem lifted (os : Os) (started : os.Started) (H : Type) (enc : TypeId × Value → H) :
    ReturnsInHanded {} Tryd.checked os 4 .any (fun w args => (Rows.digestVerifyMatchesReferenceSpec.pre enc Tryd.prog Tryd.f4 [] false w args ∧ laidMetH Tryd.prog [("aircheck/digest.round", Rows.laid_aircheck_digest_round)] w) ∧ sizedMet enc Tryd.prog Tryd.f4 (OpenSpec.ofChange Rows.digestVerifyMatchesReferenceSpec) false w args)
      (Rows.digestVerifyMatchesReferenceSpec.post enc Tryd.prog Tryd.f4 false true false false) := by
  refine returnsInHanded_of_change_and (C := Tryd.checked) (X := fun w _ => laidMetH Tryd.prog [("aircheck/digest.round", Rows.laid_aircheck_digest_round)] w) (fun _ _ _ hh h => h.of_heap hh) own started (by kernel_rfl) Tryd.func4
    (ChangeSpec.witness_shaped (enc := enc) (C := Tryd.checked) (os := os) (X := fun w _ => laidMetH Tryd.prog [("aircheck/digest.round", Rows.laid_aircheck_digest_round)] w) false (World.doorLaid Tryd.prog 400 os) #[.string ByteArray.empty, .string ByteArray.empty, .int .i64 0, .int .i64 0, .string ByteArray.empty, .slice none 0 0] 8 rfl (World.shaped_of_RefB (by kernel_rfl) (by kernel_rfl)) (by kernel_rfl) (by kernel_rfl) (by kernel_rfl) (door_met os _)) ?_
  intro W base args ds gs before hval0 hW hcnd hsz0 hL _
  have hsz : (DataW.weightsEach Tryd.prog (Tryd.f4.params.toList ++ Rows.digestVerifyMatchesReferenceSpec.plain.varTypes Tryd.prog) (ds ++ gs)).all (· ≤ reachBytes) = true := hsz0
  have hval : ∀ (j : Nat) t v, Tryd.f4.params[j]? = some t → args[j]? = some v → Value.okWide Tryd.prog W .any base t v := hval0
  have hW' := hW
  obtain ⟨p, q, hA0, hV, rfl, hfz, hnd⟩ := hW
  have hA : DataW.TrodAll enc Tryd.prog W 0 (fun _ => true) true Tryd.f4.params.toList args.toList ds p := hA0
  rw [Tryd.params4] at hA hval hsz
  obtain ⟨v0, vs0, d0, ds0, p0, q0, hargs, rfl, rfl, h0, r0⟩ := trodAll_cons hA
  obtain ⟨v1, vs1, d1, ds1, p1, q1, rfl, rfl, rfl, h1, r1⟩ := trodAll_cons r0
  obtain ⟨v2, vs2, d2, ds2, p2, q2, rfl, rfl, rfl, h2, r2⟩ := trodAll_cons r1
  obtain ⟨v3, vs3, d3, ds3, p3, q3, rfl, rfl, rfl, h3, r3⟩ := trodAll_cons r2
  obtain ⟨v4, vs4, d4, ds4, p4, q4, rfl, rfl, rfl, h4, r4⟩ := trodAll_cons r3
  obtain ⟨v5, vs5, d5, ds5, p5, q5, rfl, rfl, rfl, h5, r5⟩ := trodAll_cons r4
  obtain ⟨rfl, rfl, rfl⟩ := trodAll_nil r5
  obtain rfl : args = #[v0, v1, v2, v3, v4, v5] := by cases args; simp_all
  obtain ⟨rfl, rfl⟩ := trodVars_none hV
  obtain ⟨a0, rfl, rfl, rfl, y0⟩ := open_string Tryd.underlying9 (hval 0 9 v0 rfl rfl) h0
  have w0 : a0.size ≤ 140737488351232 := by
    have z := sized_string hsz (j := 0) (t := 9) rfl rfl
    rw [Array.length_toList] at z
    exact z
  obtain ⟨a1, rfl, rfl, rfl, y1⟩ := open_string Tryd.underlying9 (hval 1 9 v1 rfl rfl) h1
  have w1 : a1.size ≤ 140737488351232 := by
    have z := sized_string hsz (j := 1) (t := 9) rfl rfl
    rw [Array.length_toList] at z
    exact z
  obtain ⟨a2, rfl, rfl, rfl, w2⟩ := open_int Tryd.underlying3 (hval 2 3 v2 rfl rfl) h2
  obtain ⟨a3, rfl, rfl, rfl, w3⟩ := open_int Tryd.underlying3 (hval 3 3 v3 rfl rfl) h3
  obtain ⟨a4, rfl, rfl, rfl, y4⟩ := open_string Tryd.underlying9 (hval 4 9 v4 rfl rfl) h4
  have w4 : a4.size ≤ 140737488351232 := by
    have z := sized_string hsz (j := 4) (t := 9) rfl rfl
    rw [Array.length_toList] at z
    exact z
  obtain ⟨a5, len5, cap5, rfl⟩ := okWide_slice Tryd.underlying22 (hval 5 22 v5 rfl rfl)
  have k5 := h5
  have lt5 : ∀ x ∈ p5, x.block < W.heap.size := by obtain ⟨m, hm⟩ := k5; exact DataW.trod_lt m _ _ _ hm
  obtain ⟨z5, w5⟩ : ∃ zs : List ByteArray, (a5 = none ∧ len5 = 0 ∧ cap5 = 0 ∧ zs = []) ∨ ∃ x, a5 = some x ∧ len5 ≤ cap5 ∧ cap5 ≤ maxLen ∧ zs.length = cap5 ∧ (∀ i, i < zs.length → W.cell? (x.add i) = some (.string (zs.getD i ByteArray.empty))) ∧ ∀ n ∈ zs, n.size ≤ maxLen := by
    obtain ⟨fuel, hf⟩ := h5
    rcases open_strings Tryd.underlying22 Tryd.underlying9 (by kernel_rfl) hf with ⟨hcs, _⟩ | ⟨x, l, c, zs, hcs, _, hl, hm, hz, _, hcell, hwz⟩
    · simp [Value.cells] at hcs
      obtain ⟨rfl, rfl, rfl⟩ := hcs
      exact ⟨[], .inl ⟨rfl, rfl, rfl, rfl⟩⟩
    · simp [Value.cells] at hcs
      obtain ⟨rfl, rfl, rfl⟩ := hcs
      exact ⟨zs, .inr ⟨_, rfl, hl, hm, by simpa using hz, hcell, hwz⟩⟩
  obtain ⟨l5, rfl, hr5, hm5, hw5, hc5⟩ := Ext.ofRow_strs w5
  clear hA0 hval0 hsz0 hsz
  have hG : Ext.GL W := Ext.gl_of_laid hL
  obtain ⟨k, hk⟩ := Pure.DigestVerifyMatchesReference a0 a1 a2 a3 a4 l5 w0 w1 w2 w3 w4 hw5
  refine (PD.airchecklaw02_DigestVerifyMatchesReference.calls k a0 a1 a2 a3 a4 _ _ l5 true W hr5 hc5 hG hk).mono fun e W' ⟨he, bel⟩ => ?_
  subst he
  exact ⟨_, rfl, _, _, _, [], _, [], hW', trodAll_mk1 (shut_bool Tryd.underlying4 _), (trodAll_cons_mk (shut_string Tryd.underlying9 y0) (trodAll_cons_mk (shut_string Tryd.underlying9 y1) (trodAll_cons_mk (shut_int Tryd.underlying3 w2) (trodAll_cons_mk (shut_int Tryd.underlying3 w3) (trodAll_cons_mk (shut_string Tryd.underlying9 y4) (trodAll_cons_mk (Below.trod laidOut (by kernel_rfl) (of_decide_eq_true (by kernel_rfl)) k5 bel lt5) trodAll_mk0)))))), rfl, bel.frame _, fun h => by cases h⟩
theorem over : Rows.digestVerifyMatchesReferenceRow.holds Tryd.pinned (OpenSpec.ofChange Rows.digestVerifyMatchesReferenceSpec) :=
  OpenClaim.holds_of_wide 4 Tryd.f4 rfl rfl rfl rfl rfl rfl rfl ⟨rfl, rfl, rfl, rfl, rfl⟩ rfl rfl rfl rfl rfl (by kernel_rfl) Tryd.func4 (by kernel_rfl)
    (of_decide_eq_true (by kernel_rfl)) (by unfold Func.isWrapper; first | (rw [if_pos (by decide +kernel)]; kernel_rfl) | (rw [if_neg (by decide +kernel)]; exact ⟨rfl, rfl⟩))
    (fun os started H enc _ => lifted os started H enc)
theorem card_holds : Claim7.holds Tryd.pinned (.plain (OpenSpec.ofChange Rows.digestVerifyMatchesReferenceSpec)) Rows.digestVerifyMatchesReferenceCard :=
  Claim7.holds_tied_plain_at .later [] [.data] true (true, "ce2ba14b2c745cbf1c9c1cd819afa2c5f5f240e749974a17a068ca61a237d3cb") false
    over (fun _ h => by cases h) (by kernel_rfl) (fun _ h => by cases h) digestVerifyMatchesReference_row_tie rfl ⟨rfl, rfl⟩ (by kernel_rfl) rfl
    (fun f fn hf hfn => by
      obtain rfl : f = 4 := Option.some.inj ((show Tryd.prog.funcNamed "aircheck/airchecklaw02.DigestVerifyMatchesReference" = some 4 by kernel_rfl).symm.trans hf) |>.symm
      obtain rfl : fn = Tryd.f4 := (Option.some.inj (Tryd.func4.symm.trans hfn)).symm
      exact ⟨by kernel_rfl, fun j t ht => by
        rw [Tryd.params4] at ht
        have hm : t ∈ [9, 9, 3, 3, 9, 22] := by simpa using Array.mem_of_getElem? ht
        have hall : ([9, 9, 3, 3, 9, 22].all fun u => !Tryd.prog.wantsStandIn u) = true := by kernel_rfl
        exact (show Tryd.prog.wantsStandIn t = false by simpa using List.all_eq_true.1 hall t hm)⟩)
    (by kernel_rfl)
end Go.Proofs.YtlmlimihgohchaaDoor.digestVerifyMatchesReference
namespace Go.Proofs.YtlmlimihgohchaaDoor
theorem digestVerifyMatchesReference_holds : Rows.DigestVerifyMatchesReferenceCardSaid := digestVerifyMatchesReference.card_holds
#print axioms digestVerifyMatchesReference_holds
end Go.Proofs.YtlmlimihgohchaaDoor
end
