import Derived.Test.YtlmlimihgohchaaDoorYExtRound
import Derived.Test.YtlmlimihgohchaaDoorRows
import Derived.LaidMore
import Derived.Lib.LaidTab
import Derived.MakeChecks
import Derived.Test.YtlmlimihgohchaaDoorMWa
import Derived.Test.YtlmlimihgohchaaDoorMCa
import Derived.Test.YtlmlimihgohchaaDoorMEa
import Derived.Test.YtlmlimihgohchaaDoorMDa
import Derived.Test.YtlmlimihgohchaaDoorTie
import Derived.Test.YtlmlimihgohchaaDoorCards
import Derived.WalkKit
import Derived.ProofKit
import Derived.OpenShut
import Derived.ShutString
import Derived.ChangeOld
import Derived.Below
import Derived.SizedLaws
import Derived.Stop.Joined
import Derived.SevenTiedAt
import Derived.SliceStrings
/-
  The law's contract, its pure statement, its row and its card. Conditions: the row's own.
-/
section
/-
  From the row's condition on the digest's table to what the walks ask.
-/
namespace Go.Proofs.YtlmlimihgohchaaDoor.Ext
open Go.RowKit
theorem gN : Tryd.prog.globalNamed "aircheck/digest.round" = some 0 := by kernel_rfl
theorem gT : (Tryd.prog.globals[0]?).map (·.type) = some 88 := by kernel_rfl
theorem gl_of_laid {W : World} (h : laidMetH Tryd.prog [("aircheck/digest.round", Rows.laid_aircheck_digest_round)] W) : GL W := by
  rw [MakeChecks.laidMetH_plain _ _ _ (by kernel_rfl)] at h
  have hT := Lib.tabIs_of_head (zs := Sha.kk.map fun n : Nat => (n : Int)) gN gT Tryd.underlying88 Tryd.underlying69 (by kernel_rfl) (by kernel_rfl) h
  intro i hi
  have := hT.cell gN i (by simpa [Sha.kk] using hi)
  rw [this]
  congr 2
  have : i < Sha.kk.length := by simpa [Sha.kk] using hi
  simp [List.getD_eq_getElem?_getD, List.getElem?_eq_getElem this]
end Go.Proofs.YtlmlimihgohchaaDoor.Ext
end
section
/-
  Slices that came in, as lists.
-/
namespace Go.Proofs.YtlmlimihgohchaaDoor.Ext
open Go.RowKit Go.Proofs.YtlmlimihgohchaaDoorW.PrintWords
theorem ofRow_strs {w : World} {a : Option Addr} {len cap : Nat} {zs : List ByteArray} (h : (a = none ∧ len = 0 ∧ cap = 0 ∧ zs = []) ∨ ∃ x, a = some x ∧ len ≤ cap ∧ cap ≤ maxLen ∧ zs.length = cap ∧ (∀ i, i < zs.length → w.cell? (x.add i) = some (.string (zs.getD i ByteArray.empty))) ∧ ∀ n ∈ zs, n.size ≤ maxLen) :
    ∃ l : List ByteArray, len = l.length ∧ Kd.C Kd.string w a l.length l ∧ l.length ≤ maxLen ∧ (∀ x ∈ l, x.size ≤ maxLen) ∧ l.length ≤ cap := by
  rcases h with ⟨rfl, rfl, rfl, rfl⟩ | ⟨x, rfl, hl, hm, hz, hc, hw⟩
  · exact ⟨[], rfl, Kd.C_nil _ _, by simp, by simp, by simp⟩
  · have hlen : (zs.take len).length = len := by simp; omega
    refine ⟨zs.take len, hlen.symm, ?_, by omega, fun y hy => hw y (List.mem_of_mem_take hy), by omega⟩
    refine Kd.C_of_reads (d := ByteArray.empty) (h1 := fun _ => rfl) ⟨rfl, by unfold maxLen at hm; omega, fun _ => ⟨x, rfl, fun j hj => ?_⟩⟩
    rw [hc j (by omega)]
    congr 2
    rw [List.getD_eq_getElem?_getD, List.getD_eq_getElem?_getD, List.getElem?_take_of_lt (by omega)]
end Go.Proofs.YtlmlimihgohchaaDoor.Ext
end
section
-- Written by a program of this session out of the translation's print; not trusted: checked by the kernel.
namespace Go.Proofs.YtlmlimihgohchaaDoor.PD
open Go.Proofs.YtlmlimihgohchaaDoor.Ext
attribute [local go_sem] u32_signed u32_max
open Go.RowKit Go.Proofs.YtlmlimihgohchaaDoorW.PrintWords Go.Proofs.YtlmlimihgohchaaDoorW.PrintLast Go.Proofs.YtlmlimihgohchaaDoorW.PrintMore
attribute [local go_sem] max2_int min2_int max_two min_two max_three min_three max_four min_four   -- for this text's walks alone
set_option linter.unusedVariables false
set_option linter.unusedSimpArgs false
/-! ### airchecklaw02_sides: function 28 -/
mutual
def airchecklaw02_sides.j0 : Nat → ByteArray → Int → Int → List ByteArray → Bool → Bool → Option (List ByteArray × ByteArray)
 | 0, _, _, _, _, _, _ => none
 | k + 1, x0, x1, x2, x3, x4, x26 => if x26 = true then (if x4 = true then (some (([] : List ByteArray), x0)) else (if (x3.length : Int) = 0 then (some (([] : List ByteArray), x0)) else (if 0 < (x3.length : Int) then (some (([] : List ByteArray), rdOf ByteArray.empty x3 0)) else (none)))) else (if 0 ≤ (wrap64 ((x3.length : Int) - 1)) then (if (wrap64 ((x3.length : Int) - 1)) < (x3.length : Int) then (if (wrap64 ((x3.length : Int) - 1)) ≤ (x3.length : Int) then ((airchecklaw02_left.f k x2).bind fun t292 => (if x1 ≤ t292 then ((airchecklaw02_sides.f k x0 x1 t292 (x3.take ((wrap64 ((x3.length : Int) - 1)) : Int).toNat) x4).bind fun bt293 => (if 1 + bt293.2.size ≤ 9223372036854775807 then (if ((⟨#[1]⟩ : ByteArray) ++ bt293.2).size + (rdOf ByteArray.empty x3 (wrap64 ((x3.length : Int) - 1))).size ≤ 9223372036854775807 then ((some (([((⟨#[1]⟩ : ByteArray) ++ bt293.2) ++ (rdOf ByteArray.empty x3 (wrap64 ((x3.length : Int) - 1)))] : List ByteArray) : List ByteArray)).bind fun y297 => (if y297.length + bt293.1.length < 8796093022208 then ((digest_Node.f bt293.2 (rdOf ByteArray.empty x3 (wrap64 ((x3.length : Int) - 1)))).bind fun t303 => (some ((y297 ++ bt293.1), t303))) else (none))) else (none)) else (none))) else ((airchecklaw02_sides.f k x0 (wrap64 (x1 - t292)) (wrap64 (x2 - t292)) (x3.take ((wrap64 ((x3.length : Int) - 1)) : Int).toNat) false).bind fun bt304 => (if 1 + (rdOf ByteArray.empty x3 (wrap64 ((x3.length : Int) - 1))).size ≤ 9223372036854775807 then (if ((⟨#[1]⟩ : ByteArray) ++ (rdOf ByteArray.empty x3 (wrap64 ((x3.length : Int) - 1)))).size + bt304.2.size ≤ 9223372036854775807 then ((some (([((⟨#[1]⟩ : ByteArray) ++ (rdOf ByteArray.empty x3 (wrap64 ((x3.length : Int) - 1)))) ++ bt304.2] : List ByteArray) : List ByteArray)).bind fun y308 => (if y308.length + bt304.1.length < 8796093022208 then ((digest_Node.f (rdOf ByteArray.empty x3 (wrap64 ((x3.length : Int) - 1))) bt304.2).bind fun t314 => (some ((y308 ++ bt304.1), t314))) else (none))) else (none)) else (none))))) else (none)) else (none)) else (none))
def airchecklaw02_sides.f : Nat → ByteArray → Int → Int → List ByteArray → Bool → Option (List ByteArray × ByteArray)
 | 0, _, _, _, _, _ => none
 | k + 1, a0, a1, a2, l3, a4 => if a1 ≥ a2 then (airchecklaw02_sides.j0 k a0 a1 a2 l3 a4 true) else (airchecklaw02_sides.j0 k a0 a1 a2 l3 a4 ((l3.length : Int) == 0))
end
set_option maxHeartbeats 8000000 in
set_option maxRecDepth 100000 in
theorem airchecklaw02_sides.calls (k : Nat) : ∀ (a0 : ByteArray) (a1 : Int) (a2 : Int) (A3 : Option Addr) (c3 : Nat) (l3 : List ByteArray) (a4 : Bool) (r1 : List ByteArray) (r2 : ByteArray) (w : World) (hr3 : Kd.C Kd.string w A3 l3.length l3) (hc3 : l3.length ≤ c3) (hG : GL w) (h : airchecklaw02_sides.f k a0 a1 a2 l3 a4 = some (r1, r2)),
  Calls Tryd.prog 28 #[.string a0, .int .i64 a1, .int .i64 a2, .slice A3 l3.length c3, .bool a4] w fun e w' => ∃ v0_ : Value, e = .returned (.tuple #[v0_, .string r2]) ∧ Kd.R Kd.string 9 w' w.heap.size (fun _ => True) v0_ r1 ∧ Below w.heap.size w w' := by
 induction k using Nat.strongRecOn with
 | _ k ih =>
 intro a0 a1 a2 A3 c3 l3 a4 r1 r2 w hr3 hc3 hG h
 cases k with
 | zero => exact absurd h (by simp [airchecklaw02_sides.f])
 | succ k =>
 simp only [airchecklaw02_sides.f] at h
 have HR3 := Aside0.mk hr3
 have HC3 := Aside0.mk hc3
 clear hr3 hc3
 have HB := Aside0.mk (Below.refl w.heap.size w)
 have H : (if a1 ≥ a2 then (airchecklaw02_sides.j0 k a0 a1 a2 l3 a4 true) else (airchecklaw02_sides.j0 k a0 a1 a2 l3 a4 ((l3.length : Int) == 0))) = some (r1, r2) := h
 clear h
 have HC6 := Aside0.mk H
 clear H
 go_enter Tryd.func28, Tryd.ntmps28
 go_upto_region 1 with (fail)
 repeat (go_quiet (fail); go_upto_region 1 with (fail))
 go_cut [26] (fun v26 wc => ∃ (kq : Nat) (x26_5 : Bool), v26 = .bool x26_5 ∧ Aside0 (airchecklaw02_sides.j0 kq a0 a1 a2 l3 a4 x26_5 = some (r1, r2)) ∧ Aside0 (kq ≤ k) ∧ Aside0 (Below w.heap.size w wc))
 case first =>
  have H := HC6.out
  clear HC6
  by_cases c7 : a1 ≥ a2
  ·rw [if_pos c7] at H
   have c7b0 : decide (a2 ≤ a1) = true := decide_eq_true c7
   clear c7
   (first | rw [c7b0] | (simp only [i64_w, i32_w]; rw [c7b0]) | skip)
   have H' := Aside0.mk H
   clear H
   go_wp2
   repeat (go_quiet (fail); try go_wp2)
   go_meet
   case rel => exact ⟨_, (true), (by first | rfl | (simp; done) | (simp [*]; done)), H', ⟨by first | omega | exact Nat.le_refl _⟩, ⟨by repeat (first | (with_reducible first | exact HB.out | apply below_alloc | apply pw_below_drewN | apply below_drew1) | exact HB.out)⟩⟩
  ·rw [if_neg c7] at H
   have c7b0 : decide (a2 ≤ a1) = false := decide_eq_false c7
   clear c7
   (first | rw [c7b0] | (simp only [i64_w, i32_w]; rw [c7b0]) | skip)
   have H' := Aside0.mk H
   clear H
   go_wp2
   repeat (go_quiet (fail); try go_wp2)
   go_meet
   case rel => exact ⟨_, (((l3.length : Int) == 0)), (by first | rfl | (simp; done) | (simp [*]; done)), H', ⟨by first | omega | exact Nat.le_refl _⟩, ⟨by repeat (first | (with_reducible first | exact HB.out | apply below_alloc | apply pw_below_drewN | apply below_drew1) | exact HB.out)⟩⟩
 case rest =>
  clear HC6
  try clear c2
  try clear p2
  try clear c3
  try clear c7
  try clear c7b0
  obtain ⟨kq, x26_5, rfl, HA, HJ5, HB⟩ := hcut
  cases kq with
  | zero => exact absurd HA.out (by simp [airchecklaw02_sides.j0])
  | succ kj5 =>
   have H := HA.out
   clear HA
   simp only [airchecklaw02_sides.j0] at H
   by_cases c8 : x26_5 = true
   ·subst c8
    have H1 : (if a4 = true then (some (([] : List ByteArray), a0)) else (if (l3.length : Int) = 0 then (some (([] : List ByteArray), a0)) else (if 0 < (l3.length : Int) then (some (([] : List ByteArray), rdOf ByteArray.empty l3 0)) else (none)))) = some (r1, r2) := by rw [if_pos rfl] at H; exact H
    clear H
    have H := H1
    clear H1
    by_cases c9 : a4 = true
    ·subst c9
     have H1 : (some (([] : List ByteArray), a0)) = some (r1, r2) := by rw [if_pos rfl] at H; exact H
     clear H
     have H := H1
     clear H1
     simp only [Option.some.injEq, Prod.mk.injEq] at H
     obtain ⟨rfl, rfl⟩ := H
     go_wp2
     repeat (go_quiet (fail); try go_wp2)
     go_ret2
     exact ⟨_, by first | rfl | (simp [errW_none, errW_some] <;> rfl) | (simp [*, errW_none, errW_some] <;> rfl), by first | exact Kd.R_nil _ _ _ _ _ | exact Kd.N_nil _ _ _ _ _ | exact Kd.V_nil _ _ _ _ _ | exact Kd.Q_nil _ _ _ _ _ | exact Kd.S_nil _ _ _ _ _, by repeat (first | (with_reducible first | exact HB.out | apply below_alloc | apply pw_below_drewN | apply below_drew1) | exact HB.out)⟩
    ·replace c9 := Bool.eq_false_iff.mpr c9
     subst c9
     have H1 : (if (l3.length : Int) = 0 then (some (([] : List ByteArray), a0)) else (if 0 < (l3.length : Int) then (some (([] : List ByteArray), rdOf ByteArray.empty l3 0)) else (none))) = some (r1, r2) := by rw [if_neg (show ¬ (false = true) by decide)] at H; exact H
     clear H
     have H := H1
     clear H1
     by_cases c10 : (l3.length : Int) = 0
     ·rw [if_pos c10] at H
      have c10b0 : ((l3.length : Int) == 0) = true := beq_iff_eq.mpr c10
      have c10b1 : ((l3.length : Int) != 0) = false := bne_eq_false_iff_eq.mpr c10
      clear c10
      simp only [Option.some.injEq, Prod.mk.injEq] at H
      obtain ⟨rfl, rfl⟩ := H
      go_wp2
      repeat (go_quiet (fail); try go_wp2)
      go_ret2
      exact ⟨_, by first | rfl | (simp [errW_none, errW_some] <;> rfl) | (simp [*, errW_none, errW_some] <;> rfl), by first | exact Kd.R_nil _ _ _ _ _ | exact Kd.N_nil _ _ _ _ _ | exact Kd.V_nil _ _ _ _ _ | exact Kd.Q_nil _ _ _ _ _ | exact Kd.S_nil _ _ _ _ _, by repeat (first | (with_reducible first | exact HB.out | apply below_alloc | apply pw_below_drewN | apply below_drew1) | exact HB.out)⟩
     ·rw [if_neg c10] at H
      have c10b0 : ((l3.length : Int) == 0) = false := beq_eq_false_iff_ne.mpr c10
      have c10b1 : ((l3.length : Int) != 0) = true := bne_iff_ne.mpr c10
      have c10b2 : ¬ (l3 = []) := fun h_ => c10 (by rw [h_]; rfl)
      by_cases c11 : 0 < (l3.length : Int)
      ·rw [if_pos c11] at H
       have c11b0 : decide (0 < (l3.length : Int)) = true := decide_eq_true c11
       have c11b1 : decide (0 < l3.length) = true := decide_eq_true (by omega)
       clear c11
       simp only [Option.some.injEq, Prod.mk.injEq] at H
       obtain ⟨rfl, rfl⟩ := H
       have p289 : 0 ≤ (0 : Int) := (by omega)
       have q289 : 0 < (l3.length : Int) := of_decide_eq_true (by first | (with_reducible assumption) | assumption)
       obtain ⟨ad289, e289, hx289_0⟩ := Kd.at_string HR3.out 0 p289 q289
       cases e289
       have qi289 : (0 < l3.length) = True := eq_true (by omega)
       (try rw [show ((0 : Int)).toNat = 0 from rfl] at hx289_0)
       (try rw [Addr.add_zero'] at hx289_0)
       replace hx289_0 := (HB.out.cell (World.block_lt_of_cell? w _ hx289_0)).trans hx289_0
       replace p289 := eq_true p289
       replace q289 := eq_true q289
       go_wp2
       repeat (go_quiet (fail); try go_wp2)
       go_ret2
       exact ⟨_, by first | rfl | (simp [errW_none, errW_some] <;> rfl) | (simp [*, errW_none, errW_some] <;> rfl), by first | exact Kd.R_nil _ _ _ _ _ | exact Kd.N_nil _ _ _ _ _ | exact Kd.V_nil _ _ _ _ _ | exact Kd.Q_nil _ _ _ _ _ | exact Kd.S_nil _ _ _ _ _, by repeat (first | (with_reducible first | exact HB.out | apply below_alloc | apply pw_below_drewN | apply below_drew1) | exact HB.out)⟩
      ·rw [if_neg c11] at H
       exact absurd H (by simp)
   ·replace c8 := Bool.eq_false_iff.mpr c8
    subst c8
    have H1 : (if 0 ≤ (wrap64 ((l3.length : Int) - 1)) then (if (wrap64 ((l3.length : Int) - 1)) < (l3.length : Int) then (if (wrap64 ((l3.length : Int) - 1)) ≤ (l3.length : Int) then ((airchecklaw02_left.f kj5 a2).bind fun t292 => (if a1 ≤ t292 then ((airchecklaw02_sides.f kj5 a0 a1 t292 (l3.take ((wrap64 ((l3.length : Int) - 1)) : Int).toNat) a4).bind fun bt293 => (if 1 + bt293.2.size ≤ 9223372036854775807 then (if ((⟨#[1]⟩ : ByteArray) ++ bt293.2).size + (rdOf ByteArray.empty l3 (wrap64 ((l3.length : Int) - 1))).size ≤ 9223372036854775807 then ((some (([((⟨#[1]⟩ : ByteArray) ++ bt293.2) ++ (rdOf ByteArray.empty l3 (wrap64 ((l3.length : Int) - 1)))] : List ByteArray) : List ByteArray)).bind fun y297 => (if y297.length + bt293.1.length < 8796093022208 then ((digest_Node.f bt293.2 (rdOf ByteArray.empty l3 (wrap64 ((l3.length : Int) - 1)))).bind fun t303 => (some ((y297 ++ bt293.1), t303))) else (none))) else (none)) else (none))) else ((airchecklaw02_sides.f kj5 a0 (wrap64 (a1 - t292)) (wrap64 (a2 - t292)) (l3.take ((wrap64 ((l3.length : Int) - 1)) : Int).toNat) false).bind fun bt304 => (if 1 + (rdOf ByteArray.empty l3 (wrap64 ((l3.length : Int) - 1))).size ≤ 9223372036854775807 then (if ((⟨#[1]⟩ : ByteArray) ++ (rdOf ByteArray.empty l3 (wrap64 ((l3.length : Int) - 1)))).size + bt304.2.size ≤ 9223372036854775807 then ((some (([((⟨#[1]⟩ : ByteArray) ++ (rdOf ByteArray.empty l3 (wrap64 ((l3.length : Int) - 1)))) ++ bt304.2] : List ByteArray) : List ByteArray)).bind fun y308 => (if y308.length + bt304.1.length < 8796093022208 then ((digest_Node.f (rdOf ByteArray.empty l3 (wrap64 ((l3.length : Int) - 1))) bt304.2).bind fun t314 => (some ((y308 ++ bt304.1), t314))) else (none))) else (none)) else (none))))) else (none)) else (none)) else (none)) = some (r1, r2) := by rw [if_neg (show ¬ (false = true) by decide)] at H; exact H
    clear H
    have H := H1
    clear H1
    obtain ⟨ji12, hji12⟩ : ∃ j_ : Int, (wrap64 ((l3.length : Int) - 1)) = j_ := ⟨_, rfl⟩
    replace H : (if 0 ≤ (ji12) then (if (ji12) < (l3.length : Int) then (if (ji12) ≤ (l3.length : Int) then ((airchecklaw02_left.f kj5 a2).bind fun t292 => (if a1 ≤ t292 then ((airchecklaw02_sides.f kj5 a0 a1 t292 (l3.take ((ji12) : Int).toNat) a4).bind fun bt293 => (if 1 + bt293.2.size ≤ 9223372036854775807 then (if ((⟨#[1]⟩ : ByteArray) ++ bt293.2).size + (rdOf ByteArray.empty l3 (ji12)).size ≤ 9223372036854775807 then ((some (([((⟨#[1]⟩ : ByteArray) ++ bt293.2) ++ (rdOf ByteArray.empty l3 (ji12))] : List ByteArray) : List ByteArray)).bind fun y297 => (if y297.length + bt293.1.length < 8796093022208 then ((digest_Node.f bt293.2 (rdOf ByteArray.empty l3 (ji12))).bind fun t303 => (some ((y297 ++ bt293.1), t303))) else (none))) else (none)) else (none))) else ((airchecklaw02_sides.f kj5 a0 (wrap64 (a1 - t292)) (wrap64 (a2 - t292)) (l3.take ((ji12) : Int).toNat) false).bind fun bt304 => (if 1 + (rdOf ByteArray.empty l3 (ji12)).size ≤ 9223372036854775807 then (if ((⟨#[1]⟩ : ByteArray) ++ (rdOf ByteArray.empty l3 (ji12))).size + bt304.2.size ≤ 9223372036854775807 then ((some (([((⟨#[1]⟩ : ByteArray) ++ (rdOf ByteArray.empty l3 (ji12))) ++ bt304.2] : List ByteArray) : List ByteArray)).bind fun y308 => (if y308.length + bt304.1.length < 8796093022208 then ((digest_Node.f (rdOf ByteArray.empty l3 (ji12)) bt304.2).bind fun t314 => (some ((y308 ++ bt304.1), t314))) else (none))) else (none)) else (none))))) else (none)) else (none)) else (none)) = some (r1, r2) := by first | (rw [hji12] at H; exact H) | (simp only [hji12] at H ⊢; exact H)
    have hji12w : (IntKind.i64.wrap ((l3.length : Int) - 1)) = ji12 := (i64_w _).trans hji12
    by_cases c13 : 0 ≤ (ji12)
    ·rw [if_pos c13] at H
     have c13b0 : decide (0 ≤ (ji12)) = true := decide_eq_true c13
     clear c13
     by_cases c14 : (ji12) < (l3.length : Int)
     ·rw [if_pos c14] at H
      have c14b0 : decide ((ji12) < (l3.length : Int)) = true := decide_eq_true c14
      clear c14
      have c15b0 := eq_true (of_decide_eq_true (by first | (with_reducible assumption) | assumption) : 0 ≤ (ji12))
      by_cases c16 : (ji12) ≤ (l3.length : Int)
      ·rw [if_pos c16] at H
       have c16b0 := eq_true c16
       have c16b1 : decide ((ji12) ≤ (l3.length : Int)) = true := decide_eq_true c16
       clear c16
       replace H := Option.bind_eq_some_iff.mp H
       obtain ⟨t292, A170, H⟩ := H
       replace H : (if a1 ≤ t292 then ((airchecklaw02_sides.f kj5 a0 a1 t292 (l3.take ((ji12) : Int).toNat) a4).bind fun bt293 => (if 1 + bt293.2.size ≤ 9223372036854775807 then (if ((⟨#[1]⟩ : ByteArray) ++ bt293.2).size + (rdOf ByteArray.empty l3 (ji12)).size ≤ 9223372036854775807 then ((some (([((⟨#[1]⟩ : ByteArray) ++ bt293.2) ++ (rdOf ByteArray.empty l3 (ji12))] : List ByteArray) : List ByteArray)).bind fun y297 => (if y297.length + bt293.1.length < 8796093022208 then ((digest_Node.f bt293.2 (rdOf ByteArray.empty l3 (ji12))).bind fun t303 => (some ((y297 ++ bt293.1), t303))) else (none))) else (none)) else (none))) else ((airchecklaw02_sides.f kj5 a0 (wrap64 (a1 - t292)) (wrap64 (a2 - t292)) (l3.take ((ji12) : Int).toNat) false).bind fun bt304 => (if 1 + (rdOf ByteArray.empty l3 (ji12)).size ≤ 9223372036854775807 then (if ((⟨#[1]⟩ : ByteArray) ++ (rdOf ByteArray.empty l3 (ji12))).size + bt304.2.size ≤ 9223372036854775807 then ((some (([((⟨#[1]⟩ : ByteArray) ++ (rdOf ByteArray.empty l3 (ji12))) ++ bt304.2] : List ByteArray) : List ByteArray)).bind fun y308 => (if y308.length + bt304.1.length < 8796093022208 then ((digest_Node.f (rdOf ByteArray.empty l3 (ji12)) bt304.2).bind fun t314 => (some ((y308 ++ bt304.1), t314))) else (none))) else (none)) else (none)))) = some (r1, r2) := H
       have A17 := Aside0.mk A170
       clear A170
       by_cases c18 : a1 ≤ t292
       ·rw [if_pos c18] at H
        have c18b0 : decide (a1 ≤ t292) = true := decide_eq_true c18
        clear c18
        replace H := Option.bind_eq_some_iff.mp H
        obtain ⟨⟨t293, t294⟩, A190, H⟩ := H
        replace H : (if 1 + t294.size ≤ 9223372036854775807 then (if ((⟨#[1]⟩ : ByteArray) ++ t294).size + (rdOf ByteArray.empty l3 (ji12)).size ≤ 9223372036854775807 then ((some (([((⟨#[1]⟩ : ByteArray) ++ t294) ++ (rdOf ByteArray.empty l3 (ji12))] : List ByteArray) : List ByteArray)).bind fun y297 => (if y297.length + t293.length < 8796093022208 then ((digest_Node.f t294 (rdOf ByteArray.empty l3 (ji12))).bind fun t303 => (some ((y297 ++ t293), t303))) else (none))) else (none)) else (none)) = some (r1, r2) := H
        have A19 := Aside0.mk A190
        clear A190
        by_cases c20 : 1 + t294.size ≤ 9223372036854775807
        ·rw [if_pos c20] at H
         have c20b0 := eq_true c20
         have c20b1 : decide (1 + t294.size ≤ 9223372036854775807) = true := decide_eq_true c20
         try have c20b2 : (9223372036854775807 < 1 + t294.size) = False := eq_false (Nat.not_lt.2 c20)
         obtain ⟨js21, hjs21⟩ : ∃ s_ : ByteArray, ((⟨#[1]⟩ : ByteArray) ++ t294) = s_ := ⟨_, rfl⟩
         replace H : (if js21.size + (rdOf ByteArray.empty l3 (ji12)).size ≤ 9223372036854775807 then ((some (([js21 ++ (rdOf ByteArray.empty l3 (ji12))] : List ByteArray) : List ByteArray)).bind fun y297 => (if y297.length + t293.length < 8796093022208 then ((digest_Node.f t294 (rdOf ByteArray.empty l3 (ji12))).bind fun t303 => (some ((y297 ++ t293), t303))) else (none))) else (none)) = some (r1, r2) := by first | (rw [hjs21] at H; exact H) | (simp only [hjs21] at H ⊢; exact H) | exact H
         by_cases c22 : js21.size + (rdOf ByteArray.empty l3 (ji12)).size ≤ 9223372036854775807
         ·rw [if_pos c22] at H
          have c22b0 := eq_true c22
          have c22b1 : decide (js21.size + (rdOf ByteArray.empty l3 (ji12)).size ≤ 9223372036854775807) = true := decide_eq_true c22
          try have c22b2 : (9223372036854775807 < js21.size + (rdOf ByteArray.empty l3 (ji12)).size) = False := eq_false (Nat.not_lt.2 c22)
          obtain ⟨js23, hjs23⟩ : ∃ s_ : ByteArray, (js21 ++ (rdOf ByteArray.empty l3 (ji12))) = s_ := ⟨_, rfl⟩
          replace H : ((some (([js23] : List ByteArray) : List ByteArray)).bind fun y297 => (if y297.length + t293.length < 8796093022208 then ((digest_Node.f t294 (rdOf ByteArray.empty l3 (ji12))).bind fun t303 => (some ((y297 ++ t293), t303))) else (none))) = some (r1, r2) := by first | (rw [hjs23] at H; exact H) | (simp only [hjs23] at H ⊢; exact H) | exact H
          obtain ⟨y297, hy297⟩ : ∃ y_ : List ByteArray, y_ = (([js23] : List ByteArray)) := ⟨_, rfl⟩
          replace H : (if y297.length + t293.length < 8796093022208 then ((digest_Node.f t294 (rdOf ByteArray.empty l3 (ji12))).bind fun t303 => (some ((y297 ++ t293), t303))) else (none)) = some (r1, r2) := by first | (rw [hy297]; with_reducible exact H) | (have H2_ := (Option.bind_some _ _).symm.trans H; rw [hy297]; with_reducible exact H2_) | (have H2_ := (Option.bind_some _ _).symm.trans H; with_reducible exact H2_) | with_reducible exact H | (rw [hy297]; exact H) | exact H
          have Ny297 := Aside0.mk hy297
          clear hy297
          by_cases c24 : y297.length + t293.length < 8796093022208
          ·rw [if_pos c24] at H
           have LMc24 := Aside0.mk c24
           clear c24
           obtain ⟨y300, hy300⟩ : ∃ y_ : List ByteArray, y_ = (y297 ++ t293) := ⟨_, rfl⟩
           replace H : ((digest_Node.f t294 (rdOf ByteArray.empty l3 (ji12))).bind fun t303 => (some (y300, t303))) = some (r1, r2) := by first | (rw [hy300]; with_reducible exact H) | (have H2_ := (Option.bind_some _ _).symm.trans H; rw [hy300]; with_reducible exact H2_) | (have H2_ := (Option.bind_some _ _).symm.trans H; with_reducible exact H2_) | with_reducible exact H | (rw [hy300]; exact H) | exact H
           have Ny300 := Aside0.mk hy300
           clear hy300
           replace H := Option.bind_eq_some_iff.mp H
           obtain ⟨t303, A250, H⟩ := H
           replace H : (some (y300, t303)) = some (r1, r2) := H
           have A25 := Aside0.mk A250
           clear A250
           simp only [Option.some.injEq, Prod.mk.injEq] at H
           obtain ⟨rfl, rfl⟩ := H
           have p290 : 0 ≤ ((ji12) : Int) := of_decide_eq_true (by first | (with_reducible assumption) | assumption)
           have q290 : (ji12) < (l3.length : Int) := of_decide_eq_true (by first | (with_reducible assumption) | assumption)
           obtain ⟨ad290, e290, hx290_0⟩ := Kd.at_string HR3.out (ji12) p290 q290
           cases e290
           replace hx290_0 := (HB.out.cell (World.block_lt_of_cell? w _ hx290_0)).trans hx290_0
           replace p290 := eq_true p290
           replace q290 := eq_true q290
           obtain ⟨i026, hi026, _, hsz26, _⟩ := info_parts info9
           obtain ⟨hcut26, hA26, hC26⟩ := print_take_of (P := Tryd.prog) Value.string (⟨#[]⟩ : ByteArray) 22 9 .i64 Tryd.underlying22 hi026 hsz26 (some ad290) c3 l3 (ji12) (of_decide_eq_true (by first | (with_reducible assumption) | assumption)) (of_decide_eq_true (by first | (with_reducible assumption) | assumption)) HC3.out
           have HR291 := Aside0.mk (Kd.C_of_reads (h1 := fun _ => rfl) (hA26 _ (Kd.reads_of_C HR3.out)))
           have HC291 := Aside0.mk hC26
           clear hA26 hC26 hi026 hsz26
           obtain ⟨tk, htk⟩ : ∃ t_ : List ByteArray, l3.take ((ji12) : Int).toNat = t_ := ⟨_, rfl⟩
           rw [htk] at hcut26 HR291 HC291 A19
           clear htk
           go_wp2_with (first | (go_at_call 31; (with_reducible refine (airchecklaw02_left.calls kj5 a2 t292 _ A17.out).mono ?_); rintro e w' ⟨rfl, ⟨nd, rfl⟩⟩; (try first | exact ⟨rfl, _, World.drewN_drewN _ _ _⟩ | exact ⟨rfl, _, Eq.trans (World.drewN_drewN _ _ _) (congrArg (World.drewN _) (Nat.add_assoc _ _ _))⟩)) | (go_at_call 28; (with_reducible refine (ih kj5 (by have := HJ5.out; omega) a0 a1 t292 _ _ tk a4 t293 t294 _ ?side1 ?side2 ?side3 A19.out).mono ?_); (case side1 => repeat (first | exact (Kd.C_below HR291.out (by repeat (first | (with_reducible first | exact HB.out | apply below_alloc | apply pw_below_drewN | apply below_drew1) | exact HB.out))) | (with_reducible refine Kd.C_alloc ?_ _) | (with_reducible refine Kd.C_drewN ?_ _) | (with_reducible refine Kd.C_drew ?_))); (case side2 => exact HC291.out); (case side3 => first | exact hG | exact GL.below hG (by repeat (first | (with_reducible first | exact HB.out | apply below_alloc | apply pw_below_drewN | apply below_drew1) | exact HB.out))); rintro e w27 ⟨v295, rfl, ho0, hb⟩; have n0_ := Aside0.mk (Kd.R_lower ho0 (below_size (by repeat (first | (with_reducible first | exact HB.out | apply below_alloc | apply pw_below_drewN | apply below_drew1) | exact HB.out)))); have n1_ := Aside0.mk (below_step (by repeat (first | (with_reducible first | exact HB.out | apply below_alloc | apply pw_below_drewN | apply below_drew1) | exact HB.out)) hb); clear HB; have HO296 := n0_; have HB := n1_; clear n0_ n1_; (try clear hb); (try clear hb2); (try clear hk); (try clear hi); (try clear ho0)) | ((with_reducible refine gate_dst (N := 66) rfl ?_); (try (refine gate_guard (by rfl) ?_; dsimp only)); refine Kd.R_lit Kd.string _ 9 ?hg (N := 66) ?hd (xs := ([js23] : List ByteArray)) (inner := [.string js23]) (ok := fun _ => True) (okp := fun _ => True) ?hr ?hp (fun _ hk => hk) trivial (Below.refl _ _) (Nat.le_refl _) (by simp) ?_; (case hd => rfl); (case hg => rfl); (case hr => first | (go_simp; done) | (go_simp; rfl)); (case hp => exact (Reps.one (show Kd.M Kd.string _ _ _ js23 [.string js23] from rfl) (Reps.none _ _))); intro v298 w28 ho29 hb hg_ hnew_; clear hg_ hnew_; (first | rw [← Ny297.out] at ho29 | (simp only [Int.reduceToNat] at ho29; rw [← Ny297.out] at ho29)); have n0_ := Aside0.mk (Kd.R_elder' (by (with_reducible repeat (first | apply Kd.R_alloc | apply Kd.R_drewN | apply Kd.R_drew)); exact HO296.out) (Kd.R_base ho29) hb); have n1_ := Aside0.mk (Kd.R_lower (Kd.R_new' ho29 (Kd.R_lt (by (with_reducible repeat (first | apply Kd.R_alloc | apply Kd.R_drewN | apply Kd.R_drew)); exact HO296.out))) (below_size (by repeat (first | (with_reducible first | exact HB.out | apply below_alloc | apply pw_below_drewN | apply below_drew1) | exact HB.out)))); have n2_ := Aside0.mk (below_step (by repeat (first | (with_reducible first | exact HB.out | apply below_alloc | apply pw_below_drewN | apply below_drew1) | exact HB.out)) hb); clear HO296; clear HB; have HO296 := n0_; have HO299 := n1_; have HB := n2_; clear n0_ n1_ n2_; clear hb ho29; obtain ⟨Ao31, co31, eo31⟩ := Kd.R_slice HO296.out; subst eo31) | ((with_reducible refine gate_builtin (b := .append) (xs := #[.tmp 66, .tmp 67]) rfl ?_); (try (refine gate_guard (by rfl) ?_; dsimp only)); at_builtin; refine Kd.R_append_rows Kd.string (w0 := w) w.heap.size rfl (.tmp 66) (.tmp 67) 22 9 (.string ⟨#[]⟩) 16 rfl Tryd.underlying22 info9 rfl (by decide) (by omega) v298 y297 t293 _ _ _ (fun k_ => some k_ ≠ (.slice Ao31 t293.length co31 : Value).ownBlock) (fun _ => False) rfl rfl ?aO ?aR (fun _ _ h => h) (fun _ h => h.elim) ?aF ?aB ?aS ?aL ?_; (case aR => repeat (first | exact (Kd.R_reads' HO296.out).2.2 | (with_reducible refine Kd.C_alloc ?_ _) | (with_reducible refine Kd.C_drewN ?_ _) | (with_reducible refine Kd.C_drew ?_))); (case aB => exact (by repeat (first | (with_reducible first | exact HB.out | apply below_alloc | apply pw_below_drewN | apply below_drew1) | exact HB.out))); (case aF => exact (fun k_ hk => Kd.fresh' (Kd.R_lt (by (with_reducible repeat (first | apply Kd.R_alloc | apply Kd.R_drewN | apply Kd.R_drew)); exact HO296.out)) k_ hk)); (case aO => exact (by (with_reducible repeat (first | apply Kd.R_alloc | apply Kd.R_drewN | apply Kd.R_drew)); exact Kd.R_mono HO299.out (fun _ hk => hk.2))); (case aS => exact (below_size (by repeat (first | (with_reducible first | exact HB.out | apply below_alloc | apply pw_below_drewN | apply below_drew1) | exact HB.out)))); (case aL => have := LMc24.out; omega); intro v301 w30 ho hb hg hat; rw [← Ny300.out] at ho; have n0_ := Aside0.mk (Kd.R_after (ok := (fun _ => True)) (by (with_reducible repeat (first | apply Kd.R_alloc | apply Kd.R_drewN | apply Kd.R_drew)); exact HO296.out) hg hat); have n1_ := Aside0.mk (hb); have n2_ := Aside0.mk (ho); clear HO296; clear HB; clear HO299; have HO296 := n0_; have HB := n1_; have HO302 := n2_; clear n0_ n1_ n2_; clear ho hb hg hat) | (go_at_call 32; (with_reducible refine (digest_Node.calls t294 (rdOf ByteArray.empty l3 (ji12)) t303 _ ?side1 A25.out).mono ?_); (case side1 => first | exact hG | exact GL.below hG (by repeat (first | (with_reducible first | exact HB.out | apply below_alloc | apply pw_below_drewN | apply below_drew1) | exact HB.out))); rintro e w32 ⟨rfl, hb⟩; have n0_ := Aside0.mk (Kd.R_below (by (with_reducible repeat (first | apply Kd.R_alloc | apply Kd.R_drewN | apply Kd.R_drew)); exact HO296.out) hb); have n1_ := Aside0.mk (Kd.R_below (by (with_reducible repeat (first | apply Kd.R_alloc | apply Kd.R_drewN | apply Kd.R_drew)); exact HO302.out) hb); have n2_ := Aside0.mk (below_step (by repeat (first | (with_reducible first | exact HB.out | apply below_alloc | apply pw_below_drewN | apply below_drew1) | exact HB.out)) hb); clear HO296; clear HO302; clear HB; have HO296 := n0_; have HO302 := n1_; have HB := n2_; clear n0_ n1_ n2_; (try clear hb); (try clear hb2); (try clear hk); (try clear hi)))
           repeat (go_quiet (first | (go_at_call 31; (with_reducible refine (airchecklaw02_left.calls kj5 a2 t292 _ A17.out).mono ?_); rintro e w' ⟨rfl, ⟨nd, rfl⟩⟩; (try first | exact ⟨rfl, _, World.drewN_drewN _ _ _⟩ | exact ⟨rfl, _, Eq.trans (World.drewN_drewN _ _ _) (congrArg (World.drewN _) (Nat.add_assoc _ _ _))⟩)) | (go_at_call 28; (with_reducible refine (ih kj5 (by have := HJ5.out; omega) a0 a1 t292 _ _ tk a4 t293 t294 _ ?side1 ?side2 ?side3 A19.out).mono ?_); (case side1 => repeat (first | exact (Kd.C_below HR291.out (by repeat (first | (with_reducible first | exact HB.out | apply below_alloc | apply pw_below_drewN | apply below_drew1) | exact HB.out))) | (with_reducible refine Kd.C_alloc ?_ _) | (with_reducible refine Kd.C_drewN ?_ _) | (with_reducible refine Kd.C_drew ?_))); (case side2 => exact HC291.out); (case side3 => first | exact hG | exact GL.below hG (by repeat (first | (with_reducible first | exact HB.out | apply below_alloc | apply pw_below_drewN | apply below_drew1) | exact HB.out))); rintro e w27 ⟨v295, rfl, ho0, hb⟩; have n0_ := Aside0.mk (Kd.R_lower ho0 (below_size (by repeat (first | (with_reducible first | exact HB.out | apply below_alloc | apply pw_below_drewN | apply below_drew1) | exact HB.out)))); have n1_ := Aside0.mk (below_step (by repeat (first | (with_reducible first | exact HB.out | apply below_alloc | apply pw_below_drewN | apply below_drew1) | exact HB.out)) hb); clear HB; have HO296 := n0_; have HB := n1_; clear n0_ n1_; (try clear hb); (try clear hb2); (try clear hk); (try clear hi); (try clear ho0)) | ((with_reducible refine gate_dst (N := 66) rfl ?_); (try (refine gate_guard (by rfl) ?_; dsimp only)); refine Kd.R_lit Kd.string _ 9 ?hg (N := 66) ?hd (xs := ([js23] : List ByteArray)) (inner := [.string js23]) (ok := fun _ => True) (okp := fun _ => True) ?hr ?hp (fun _ hk => hk) trivial (Below.refl _ _) (Nat.le_refl _) (by simp) ?_; (case hd => rfl); (case hg => rfl); (case hr => first | (go_simp; done) | (go_simp; rfl)); (case hp => exact (Reps.one (show Kd.M Kd.string _ _ _ js23 [.string js23] from rfl) (Reps.none _ _))); intro v298 w28 ho29 hb hg_ hnew_; clear hg_ hnew_; (first | rw [← Ny297.out] at ho29 | (simp only [Int.reduceToNat] at ho29; rw [← Ny297.out] at ho29)); have n0_ := Aside0.mk (Kd.R_elder' (by (with_reducible repeat (first | apply Kd.R_alloc | apply Kd.R_drewN | apply Kd.R_drew)); exact HO296.out) (Kd.R_base ho29) hb); have n1_ := Aside0.mk (Kd.R_lower (Kd.R_new' ho29 (Kd.R_lt (by (with_reducible repeat (first | apply Kd.R_alloc | apply Kd.R_drewN | apply Kd.R_drew)); exact HO296.out))) (below_size (by repeat (first | (with_reducible first | exact HB.out | apply below_alloc | apply pw_below_drewN | apply below_drew1) | exact HB.out)))); have n2_ := Aside0.mk (below_step (by repeat (first | (with_reducible first | exact HB.out | apply below_alloc | apply pw_below_drewN | apply below_drew1) | exact HB.out)) hb); clear HO296; clear HB; have HO296 := n0_; have HO299 := n1_; have HB := n2_; clear n0_ n1_ n2_; clear hb ho29; obtain ⟨Ao31, co31, eo31⟩ := Kd.R_slice HO296.out; subst eo31) | ((with_reducible refine gate_builtin (b := .append) (xs := #[.tmp 66, .tmp 67]) rfl ?_); (try (refine gate_guard (by rfl) ?_; dsimp only)); at_builtin; refine Kd.R_append_rows Kd.string (w0 := w) w.heap.size rfl (.tmp 66) (.tmp 67) 22 9 (.string ⟨#[]⟩) 16 rfl Tryd.underlying22 info9 rfl (by decide) (by omega) v298 y297 t293 _ _ _ (fun k_ => some k_ ≠ (.slice Ao31 t293.length co31 : Value).ownBlock) (fun _ => False) rfl rfl ?aO ?aR (fun _ _ h => h) (fun _ h => h.elim) ?aF ?aB ?aS ?aL ?_; (case aR => repeat (first | exact (Kd.R_reads' HO296.out).2.2 | (with_reducible refine Kd.C_alloc ?_ _) | (with_reducible refine Kd.C_drewN ?_ _) | (with_reducible refine Kd.C_drew ?_))); (case aB => exact (by repeat (first | (with_reducible first | exact HB.out | apply below_alloc | apply pw_below_drewN | apply below_drew1) | exact HB.out))); (case aF => exact (fun k_ hk => Kd.fresh' (Kd.R_lt (by (with_reducible repeat (first | apply Kd.R_alloc | apply Kd.R_drewN | apply Kd.R_drew)); exact HO296.out)) k_ hk)); (case aO => exact (by (with_reducible repeat (first | apply Kd.R_alloc | apply Kd.R_drewN | apply Kd.R_drew)); exact Kd.R_mono HO299.out (fun _ hk => hk.2))); (case aS => exact (below_size (by repeat (first | (with_reducible first | exact HB.out | apply below_alloc | apply pw_below_drewN | apply below_drew1) | exact HB.out)))); (case aL => have := LMc24.out; omega); intro v301 w30 ho hb hg hat; rw [← Ny300.out] at ho; have n0_ := Aside0.mk (Kd.R_after (ok := (fun _ => True)) (by (with_reducible repeat (first | apply Kd.R_alloc | apply Kd.R_drewN | apply Kd.R_drew)); exact HO296.out) hg hat); have n1_ := Aside0.mk (hb); have n2_ := Aside0.mk (ho); clear HO296; clear HB; clear HO299; have HO296 := n0_; have HB := n1_; have HO302 := n2_; clear n0_ n1_ n2_; clear ho hb hg hat) | (go_at_call 32; (with_reducible refine (digest_Node.calls t294 (rdOf ByteArray.empty l3 (ji12)) t303 _ ?side1 A25.out).mono ?_); (case side1 => first | exact hG | exact GL.below hG (by repeat (first | (with_reducible first | exact HB.out | apply below_alloc | apply pw_below_drewN | apply below_drew1) | exact HB.out))); rintro e w32 ⟨rfl, hb⟩; have n0_ := Aside0.mk (Kd.R_below (by (with_reducible repeat (first | apply Kd.R_alloc | apply Kd.R_drewN | apply Kd.R_drew)); exact HO296.out) hb); have n1_ := Aside0.mk (Kd.R_below (by (with_reducible repeat (first | apply Kd.R_alloc | apply Kd.R_drewN | apply Kd.R_drew)); exact HO302.out) hb); have n2_ := Aside0.mk (below_step (by repeat (first | (with_reducible first | exact HB.out | apply below_alloc | apply pw_below_drewN | apply below_drew1) | exact HB.out)) hb); clear HO296; clear HO302; clear HB; have HO296 := n0_; have HO302 := n1_; have HB := n2_; clear n0_ n1_ n2_; (try clear hb); (try clear hb2); (try clear hk); (try clear hi))); try go_wp2_with (first | (go_at_call 31; (with_reducible refine (airchecklaw02_left.calls kj5 a2 t292 _ A17.out).mono ?_); rintro e w' ⟨rfl, ⟨nd, rfl⟩⟩; (try first | exact ⟨rfl, _, World.drewN_drewN _ _ _⟩ | exact ⟨rfl, _, Eq.trans (World.drewN_drewN _ _ _) (congrArg (World.drewN _) (Nat.add_assoc _ _ _))⟩)) | (go_at_call 28; (with_reducible refine (ih kj5 (by have := HJ5.out; omega) a0 a1 t292 _ _ tk a4 t293 t294 _ ?side1 ?side2 ?side3 A19.out).mono ?_); (case side1 => repeat (first | exact (Kd.C_below HR291.out (by repeat (first | (with_reducible first | exact HB.out | apply below_alloc | apply pw_below_drewN | apply below_drew1) | exact HB.out))) | (with_reducible refine Kd.C_alloc ?_ _) | (with_reducible refine Kd.C_drewN ?_ _) | (with_reducible refine Kd.C_drew ?_))); (case side2 => exact HC291.out); (case side3 => first | exact hG | exact GL.below hG (by repeat (first | (with_reducible first | exact HB.out | apply below_alloc | apply pw_below_drewN | apply below_drew1) | exact HB.out))); rintro e w27 ⟨v295, rfl, ho0, hb⟩; have n0_ := Aside0.mk (Kd.R_lower ho0 (below_size (by repeat (first | (with_reducible first | exact HB.out | apply below_alloc | apply pw_below_drewN | apply below_drew1) | exact HB.out)))); have n1_ := Aside0.mk (below_step (by repeat (first | (with_reducible first | exact HB.out | apply below_alloc | apply pw_below_drewN | apply below_drew1) | exact HB.out)) hb); clear HB; have HO296 := n0_; have HB := n1_; clear n0_ n1_; (try clear hb); (try clear hb2); (try clear hk); (try clear hi); (try clear ho0)) | ((with_reducible refine gate_dst (N := 66) rfl ?_); (try (refine gate_guard (by rfl) ?_; dsimp only)); refine Kd.R_lit Kd.string _ 9 ?hg (N := 66) ?hd (xs := ([js23] : List ByteArray)) (inner := [.string js23]) (ok := fun _ => True) (okp := fun _ => True) ?hr ?hp (fun _ hk => hk) trivial (Below.refl _ _) (Nat.le_refl _) (by simp) ?_; (case hd => rfl); (case hg => rfl); (case hr => first | (go_simp; done) | (go_simp; rfl)); (case hp => exact (Reps.one (show Kd.M Kd.string _ _ _ js23 [.string js23] from rfl) (Reps.none _ _))); intro v298 w28 ho29 hb hg_ hnew_; clear hg_ hnew_; (first | rw [← Ny297.out] at ho29 | (simp only [Int.reduceToNat] at ho29; rw [← Ny297.out] at ho29)); have n0_ := Aside0.mk (Kd.R_elder' (by (with_reducible repeat (first | apply Kd.R_alloc | apply Kd.R_drewN | apply Kd.R_drew)); exact HO296.out) (Kd.R_base ho29) hb); have n1_ := Aside0.mk (Kd.R_lower (Kd.R_new' ho29 (Kd.R_lt (by (with_reducible repeat (first | apply Kd.R_alloc | apply Kd.R_drewN | apply Kd.R_drew)); exact HO296.out))) (below_size (by repeat (first | (with_reducible first | exact HB.out | apply below_alloc | apply pw_below_drewN | apply below_drew1) | exact HB.out)))); have n2_ := Aside0.mk (below_step (by repeat (first | (with_reducible first | exact HB.out | apply below_alloc | apply pw_below_drewN | apply below_drew1) | exact HB.out)) hb); clear HO296; clear HB; have HO296 := n0_; have HO299 := n1_; have HB := n2_; clear n0_ n1_ n2_; clear hb ho29; obtain ⟨Ao31, co31, eo31⟩ := Kd.R_slice HO296.out; subst eo31) | ((with_reducible refine gate_builtin (b := .append) (xs := #[.tmp 66, .tmp 67]) rfl ?_); (try (refine gate_guard (by rfl) ?_; dsimp only)); at_builtin; refine Kd.R_append_rows Kd.string (w0 := w) w.heap.size rfl (.tmp 66) (.tmp 67) 22 9 (.string ⟨#[]⟩) 16 rfl Tryd.underlying22 info9 rfl (by decide) (by omega) v298 y297 t293 _ _ _ (fun k_ => some k_ ≠ (.slice Ao31 t293.length co31 : Value).ownBlock) (fun _ => False) rfl rfl ?aO ?aR (fun _ _ h => h) (fun _ h => h.elim) ?aF ?aB ?aS ?aL ?_; (case aR => repeat (first | exact (Kd.R_reads' HO296.out).2.2 | (with_reducible refine Kd.C_alloc ?_ _) | (with_reducible refine Kd.C_drewN ?_ _) | (with_reducible refine Kd.C_drew ?_))); (case aB => exact (by repeat (first | (with_reducible first | exact HB.out | apply below_alloc | apply pw_below_drewN | apply below_drew1) | exact HB.out))); (case aF => exact (fun k_ hk => Kd.fresh' (Kd.R_lt (by (with_reducible repeat (first | apply Kd.R_alloc | apply Kd.R_drewN | apply Kd.R_drew)); exact HO296.out)) k_ hk)); (case aO => exact (by (with_reducible repeat (first | apply Kd.R_alloc | apply Kd.R_drewN | apply Kd.R_drew)); exact Kd.R_mono HO299.out (fun _ hk => hk.2))); (case aS => exact (below_size (by repeat (first | (with_reducible first | exact HB.out | apply below_alloc | apply pw_below_drewN | apply below_drew1) | exact HB.out)))); (case aL => have := LMc24.out; omega); intro v301 w30 ho hb hg hat; rw [← Ny300.out] at ho; have n0_ := Aside0.mk (Kd.R_after (ok := (fun _ => True)) (by (with_reducible repeat (first | apply Kd.R_alloc | apply Kd.R_drewN | apply Kd.R_drew)); exact HO296.out) hg hat); have n1_ := Aside0.mk (hb); have n2_ := Aside0.mk (ho); clear HO296; clear HB; clear HO299; have HO296 := n0_; have HB := n1_; have HO302 := n2_; clear n0_ n1_ n2_; clear ho hb hg hat) | (go_at_call 32; (with_reducible refine (digest_Node.calls t294 (rdOf ByteArray.empty l3 (ji12)) t303 _ ?side1 A25.out).mono ?_); (case side1 => first | exact hG | exact GL.below hG (by repeat (first | (with_reducible first | exact HB.out | apply below_alloc | apply pw_below_drewN | apply below_drew1) | exact HB.out))); rintro e w32 ⟨rfl, hb⟩; have n0_ := Aside0.mk (Kd.R_below (by (with_reducible repeat (first | apply Kd.R_alloc | apply Kd.R_drewN | apply Kd.R_drew)); exact HO296.out) hb); have n1_ := Aside0.mk (Kd.R_below (by (with_reducible repeat (first | apply Kd.R_alloc | apply Kd.R_drewN | apply Kd.R_drew)); exact HO302.out) hb); have n2_ := Aside0.mk (below_step (by repeat (first | (with_reducible first | exact HB.out | apply below_alloc | apply pw_below_drewN | apply below_drew1) | exact HB.out)) hb); clear HO296; clear HO302; clear HB; have HO296 := n0_; have HO302 := n1_; have HB := n2_; clear n0_ n1_ n2_; (try clear hb); (try clear hb2); (try clear hk); (try clear hi))))
           go_ret2
           exact ⟨_, by first | rfl | (simp [errW_none, errW_some] <;> rfl) | (simp only [← hji12, ← hjs21, ← hjs23]; first | rfl | (simp [errW_none, errW_some] <;> rfl)) | (simp [*, errW_none, errW_some] <;> rfl), by (with_reducible repeat (first | apply Kd.R_alloc | apply Kd.R_drewN | apply Kd.R_drew)); exact Kd.R_mono HO302.out (fun _ hk => trivial), by repeat (first | (with_reducible first | exact HB.out | apply below_alloc | apply pw_below_drewN | apply below_drew1) | exact HB.out)⟩
          ·rw [if_neg c24] at H
           exact absurd H (by simp)
         ·rw [if_neg c22] at H
          exact absurd H (by simp)
        ·rw [if_neg c20] at H
         exact absurd H (by simp)
       ·rw [if_neg c18] at H
        have c18b0 : decide (a1 ≤ t292) = false := decide_eq_false c18
        clear c18
        replace H := Option.bind_eq_some_iff.mp H
        obtain ⟨⟨t304, t305⟩, A330, H⟩ := H
        replace H : (if 1 + (rdOf ByteArray.empty l3 (ji12)).size ≤ 9223372036854775807 then (if ((⟨#[1]⟩ : ByteArray) ++ (rdOf ByteArray.empty l3 (ji12))).size + t305.size ≤ 9223372036854775807 then ((some (([((⟨#[1]⟩ : ByteArray) ++ (rdOf ByteArray.empty l3 (ji12))) ++ t305] : List ByteArray) : List ByteArray)).bind fun y308 => (if y308.length + t304.length < 8796093022208 then ((digest_Node.f (rdOf ByteArray.empty l3 (ji12)) t305).bind fun t314 => (some ((y308 ++ t304), t314))) else (none))) else (none)) else (none)) = some (r1, r2) := H
        have A33 := Aside0.mk A330
        clear A330
        by_cases c34 : 1 + (rdOf ByteArray.empty l3 (ji12)).size ≤ 9223372036854775807
        ·rw [if_pos c34] at H
         have c34b0 := eq_true c34
         have c34b1 : decide (1 + (rdOf ByteArray.empty l3 (ji12)).size ≤ 9223372036854775807) = true := decide_eq_true c34
         try have c34b2 : (9223372036854775807 < 1 + (rdOf ByteArray.empty l3 (ji12)).size) = False := eq_false (Nat.not_lt.2 c34)
         obtain ⟨js35, hjs35⟩ : ∃ s_ : ByteArray, ((⟨#[1]⟩ : ByteArray) ++ (rdOf ByteArray.empty l3 (ji12))) = s_ := ⟨_, rfl⟩
         replace H : (if js35.size + t305.size ≤ 9223372036854775807 then ((some (([js35 ++ t305] : List ByteArray) : List ByteArray)).bind fun y308 => (if y308.length + t304.length < 8796093022208 then ((digest_Node.f (rdOf ByteArray.empty l3 (ji12)) t305).bind fun t314 => (some ((y308 ++ t304), t314))) else (none))) else (none)) = some (r1, r2) := by first | (rw [hjs35] at H; exact H) | (simp only [hjs35] at H ⊢; exact H) | exact H
         by_cases c36 : js35.size + t305.size ≤ 9223372036854775807
         ·rw [if_pos c36] at H
          have c36b0 := eq_true c36
          have c36b1 : decide (js35.size + t305.size ≤ 9223372036854775807) = true := decide_eq_true c36
          try have c36b2 : (9223372036854775807 < js35.size + t305.size) = False := eq_false (Nat.not_lt.2 c36)
          obtain ⟨js37, hjs37⟩ : ∃ s_ : ByteArray, (js35 ++ t305) = s_ := ⟨_, rfl⟩
          replace H : ((some (([js37] : List ByteArray) : List ByteArray)).bind fun y308 => (if y308.length + t304.length < 8796093022208 then ((digest_Node.f (rdOf ByteArray.empty l3 (ji12)) t305).bind fun t314 => (some ((y308 ++ t304), t314))) else (none))) = some (r1, r2) := by first | (rw [hjs37] at H; exact H) | (simp only [hjs37] at H ⊢; exact H) | exact H
          obtain ⟨y308, hy308⟩ : ∃ y_ : List ByteArray, y_ = (([js37] : List ByteArray)) := ⟨_, rfl⟩
          replace H : (if y308.length + t304.length < 8796093022208 then ((digest_Node.f (rdOf ByteArray.empty l3 (ji12)) t305).bind fun t314 => (some ((y308 ++ t304), t314))) else (none)) = some (r1, r2) := by first | (rw [hy308]; with_reducible exact H) | (have H2_ := (Option.bind_some _ _).symm.trans H; rw [hy308]; with_reducible exact H2_) | (have H2_ := (Option.bind_some _ _).symm.trans H; with_reducible exact H2_) | with_reducible exact H | (rw [hy308]; exact H) | exact H
          have Ny308 := Aside0.mk hy308
          clear hy308
          by_cases c38 : y308.length + t304.length < 8796093022208
          ·rw [if_pos c38] at H
           have LMc38 := Aside0.mk c38
           clear c38
           obtain ⟨y311, hy311⟩ : ∃ y_ : List ByteArray, y_ = (y308 ++ t304) := ⟨_, rfl⟩
           replace H : ((digest_Node.f (rdOf ByteArray.empty l3 (ji12)) t305).bind fun t314 => (some (y311, t314))) = some (r1, r2) := by first | (rw [hy311]; with_reducible exact H) | (have H2_ := (Option.bind_some _ _).symm.trans H; rw [hy311]; with_reducible exact H2_) | (have H2_ := (Option.bind_some _ _).symm.trans H; with_reducible exact H2_) | with_reducible exact H | (rw [hy311]; exact H) | exact H
           have Ny311 := Aside0.mk hy311
           clear hy311
           replace H := Option.bind_eq_some_iff.mp H
           obtain ⟨t314, A390, H⟩ := H
           replace H : (some (y311, t314)) = some (r1, r2) := H
           have A39 := Aside0.mk A390
           clear A390
           simp only [Option.some.injEq, Prod.mk.injEq] at H
           obtain ⟨rfl, rfl⟩ := H
           have p290 : 0 ≤ ((ji12) : Int) := of_decide_eq_true (by first | (with_reducible assumption) | assumption)
           have q290 : (ji12) < (l3.length : Int) := of_decide_eq_true (by first | (with_reducible assumption) | assumption)
           obtain ⟨ad290, e290, hx290_0⟩ := Kd.at_string HR3.out (ji12) p290 q290
           cases e290
           replace hx290_0 := (HB.out.cell (World.block_lt_of_cell? w _ hx290_0)).trans hx290_0
           replace p290 := eq_true p290
           replace q290 := eq_true q290
           obtain ⟨i040, hi040, _, hsz40, _⟩ := info_parts info9
           obtain ⟨hcut40, hA40, hC40⟩ := print_take_of (P := Tryd.prog) Value.string (⟨#[]⟩ : ByteArray) 22 9 .i64 Tryd.underlying22 hi040 hsz40 (some ad290) c3 l3 (ji12) (of_decide_eq_true (by first | (with_reducible assumption) | assumption)) (of_decide_eq_true (by first | (with_reducible assumption) | assumption)) HC3.out
           have HR291 := Aside0.mk (Kd.C_of_reads (h1 := fun _ => rfl) (hA40 _ (Kd.reads_of_C HR3.out)))
           have HC291 := Aside0.mk hC40
           clear hA40 hC40 hi040 hsz40
           obtain ⟨tk, htk⟩ : ∃ t_ : List ByteArray, l3.take ((ji12) : Int).toNat = t_ := ⟨_, rfl⟩
           rw [htk] at hcut40 HR291 HC291 A33
           clear htk
           go_wp2_with (first | (go_at_call 31; (with_reducible refine (airchecklaw02_left.calls kj5 a2 t292 _ A17.out).mono ?_); rintro e w' ⟨rfl, ⟨nd, rfl⟩⟩; (try first | exact ⟨rfl, _, World.drewN_drewN _ _ _⟩ | exact ⟨rfl, _, Eq.trans (World.drewN_drewN _ _ _) (congrArg (World.drewN _) (Nat.add_assoc _ _ _))⟩)) | (go_at_call 28; (with_reducible refine (ih kj5 (by have := HJ5.out; omega) a0 (wrap64 (a1 - t292)) (wrap64 (a2 - t292)) _ _ tk false t304 t305 _ ?side1 ?side2 ?side3 A33.out).mono ?_); (case side1 => repeat (first | exact (Kd.C_below HR291.out (by repeat (first | (with_reducible first | exact HB.out | apply below_alloc | apply pw_below_drewN | apply below_drew1) | exact HB.out))) | (with_reducible refine Kd.C_alloc ?_ _) | (with_reducible refine Kd.C_drewN ?_ _) | (with_reducible refine Kd.C_drew ?_))); (case side2 => exact HC291.out); (case side3 => first | exact hG | exact GL.below hG (by repeat (first | (with_reducible first | exact HB.out | apply below_alloc | apply pw_below_drewN | apply below_drew1) | exact HB.out))); rintro e w41 ⟨v306, rfl, ho0, hb⟩; have n0_ := Aside0.mk (Kd.R_lower ho0 (below_size (by repeat (first | (with_reducible first | exact HB.out | apply below_alloc | apply pw_below_drewN | apply below_drew1) | exact HB.out)))); have n1_ := Aside0.mk (below_step (by repeat (first | (with_reducible first | exact HB.out | apply below_alloc | apply pw_below_drewN | apply below_drew1) | exact HB.out)) hb); clear HB; have HO307 := n0_; have HB := n1_; clear n0_ n1_; (try clear hb); (try clear hb2); (try clear hk); (try clear hi); (try clear ho0)) | ((with_reducible refine gate_dst (N := 88) rfl ?_); (try (refine gate_guard (by rfl) ?_; dsimp only)); refine Kd.R_lit Kd.string _ 9 ?hg (N := 88) ?hd (xs := ([js37] : List ByteArray)) (inner := [.string js37]) (ok := fun _ => True) (okp := fun _ => True) ?hr ?hp (fun _ hk => hk) trivial (Below.refl _ _) (Nat.le_refl _) (by simp) ?_; (case hd => rfl); (case hg => rfl); (case hr => first | (go_simp; done) | (go_simp; rfl)); (case hp => exact (Reps.one (show Kd.M Kd.string _ _ _ js37 [.string js37] from rfl) (Reps.none _ _))); intro v309 w42 ho43 hb hg_ hnew_; clear hg_ hnew_; (first | rw [← Ny308.out] at ho43 | (simp only [Int.reduceToNat] at ho43; rw [← Ny308.out] at ho43)); have n0_ := Aside0.mk (Kd.R_elder' (by (with_reducible repeat (first | apply Kd.R_alloc | apply Kd.R_drewN | apply Kd.R_drew)); exact HO307.out) (Kd.R_base ho43) hb); have n1_ := Aside0.mk (Kd.R_lower (Kd.R_new' ho43 (Kd.R_lt (by (with_reducible repeat (first | apply Kd.R_alloc | apply Kd.R_drewN | apply Kd.R_drew)); exact HO307.out))) (below_size (by repeat (first | (with_reducible first | exact HB.out | apply below_alloc | apply pw_below_drewN | apply below_drew1) | exact HB.out)))); have n2_ := Aside0.mk (below_step (by repeat (first | (with_reducible first | exact HB.out | apply below_alloc | apply pw_below_drewN | apply below_drew1) | exact HB.out)) hb); clear HO307; clear HB; have HO307 := n0_; have HO310 := n1_; have HB := n2_; clear n0_ n1_ n2_; clear hb ho43; obtain ⟨Ao45, co45, eo45⟩ := Kd.R_slice HO307.out; subst eo45) | ((with_reducible refine gate_builtin (b := .append) (xs := #[.tmp 88, .tmp 89]) rfl ?_); (try (refine gate_guard (by rfl) ?_; dsimp only)); at_builtin; refine Kd.R_append_rows Kd.string (w0 := w) w.heap.size rfl (.tmp 88) (.tmp 89) 22 9 (.string ⟨#[]⟩) 16 rfl Tryd.underlying22 info9 rfl (by decide) (by omega) v309 y308 t304 _ _ _ (fun k_ => some k_ ≠ (.slice Ao45 t304.length co45 : Value).ownBlock) (fun _ => False) rfl rfl ?aO ?aR (fun _ _ h => h) (fun _ h => h.elim) ?aF ?aB ?aS ?aL ?_; (case aR => repeat (first | exact (Kd.R_reads' HO307.out).2.2 | (with_reducible refine Kd.C_alloc ?_ _) | (with_reducible refine Kd.C_drewN ?_ _) | (with_reducible refine Kd.C_drew ?_))); (case aB => exact (by repeat (first | (with_reducible first | exact HB.out | apply below_alloc | apply pw_below_drewN | apply below_drew1) | exact HB.out))); (case aF => exact (fun k_ hk => Kd.fresh' (Kd.R_lt (by (with_reducible repeat (first | apply Kd.R_alloc | apply Kd.R_drewN | apply Kd.R_drew)); exact HO307.out)) k_ hk)); (case aO => exact (by (with_reducible repeat (first | apply Kd.R_alloc | apply Kd.R_drewN | apply Kd.R_drew)); exact Kd.R_mono HO310.out (fun _ hk => hk.2))); (case aS => exact (below_size (by repeat (first | (with_reducible first | exact HB.out | apply below_alloc | apply pw_below_drewN | apply below_drew1) | exact HB.out)))); (case aL => have := LMc38.out; omega); intro v312 w44 ho hb hg hat; rw [← Ny311.out] at ho; have n0_ := Aside0.mk (Kd.R_after (ok := (fun _ => True)) (by (with_reducible repeat (first | apply Kd.R_alloc | apply Kd.R_drewN | apply Kd.R_drew)); exact HO307.out) hg hat); have n1_ := Aside0.mk (hb); have n2_ := Aside0.mk (ho); clear HO307; clear HB; clear HO310; have HO307 := n0_; have HB := n1_; have HO313 := n2_; clear n0_ n1_ n2_; clear ho hb hg hat) | (go_at_call 32; (with_reducible refine (digest_Node.calls (rdOf ByteArray.empty l3 (ji12)) t305 t314 _ ?side1 A39.out).mono ?_); (case side1 => first | exact hG | exact GL.below hG (by repeat (first | (with_reducible first | exact HB.out | apply below_alloc | apply pw_below_drewN | apply below_drew1) | exact HB.out))); rintro e w46 ⟨rfl, hb⟩; have n0_ := Aside0.mk (Kd.R_below (by (with_reducible repeat (first | apply Kd.R_alloc | apply Kd.R_drewN | apply Kd.R_drew)); exact HO307.out) hb); have n1_ := Aside0.mk (Kd.R_below (by (with_reducible repeat (first | apply Kd.R_alloc | apply Kd.R_drewN | apply Kd.R_drew)); exact HO313.out) hb); have n2_ := Aside0.mk (below_step (by repeat (first | (with_reducible first | exact HB.out | apply below_alloc | apply pw_below_drewN | apply below_drew1) | exact HB.out)) hb); clear HO307; clear HO313; clear HB; have HO307 := n0_; have HO313 := n1_; have HB := n2_; clear n0_ n1_ n2_; (try clear hb); (try clear hb2); (try clear hk); (try clear hi)))
           repeat (go_quiet (first | (go_at_call 31; (with_reducible refine (airchecklaw02_left.calls kj5 a2 t292 _ A17.out).mono ?_); rintro e w' ⟨rfl, ⟨nd, rfl⟩⟩; (try first | exact ⟨rfl, _, World.drewN_drewN _ _ _⟩ | exact ⟨rfl, _, Eq.trans (World.drewN_drewN _ _ _) (congrArg (World.drewN _) (Nat.add_assoc _ _ _))⟩)) | (go_at_call 28; (with_reducible refine (ih kj5 (by have := HJ5.out; omega) a0 (wrap64 (a1 - t292)) (wrap64 (a2 - t292)) _ _ tk false t304 t305 _ ?side1 ?side2 ?side3 A33.out).mono ?_); (case side1 => repeat (first | exact (Kd.C_below HR291.out (by repeat (first | (with_reducible first | exact HB.out | apply below_alloc | apply pw_below_drewN | apply below_drew1) | exact HB.out))) | (with_reducible refine Kd.C_alloc ?_ _) | (with_reducible refine Kd.C_drewN ?_ _) | (with_reducible refine Kd.C_drew ?_))); (case side2 => exact HC291.out); (case side3 => first | exact hG | exact GL.below hG (by repeat (first | (with_reducible first | exact HB.out | apply below_alloc | apply pw_below_drewN | apply below_drew1) | exact HB.out))); rintro e w41 ⟨v306, rfl, ho0, hb⟩; have n0_ := Aside0.mk (Kd.R_lower ho0 (below_size (by repeat (first | (with_reducible first | exact HB.out | apply below_alloc | apply pw_below_drewN | apply below_drew1) | exact HB.out)))); have n1_ := Aside0.mk (below_step (by repeat (first | (with_reducible first | exact HB.out | apply below_alloc | apply pw_below_drewN | apply below_drew1) | exact HB.out)) hb); clear HB; have HO307 := n0_; have HB := n1_; clear n0_ n1_; (try clear hb); (try clear hb2); (try clear hk); (try clear hi); (try clear ho0)) | ((with_reducible refine gate_dst (N := 88) rfl ?_); (try (refine gate_guard (by rfl) ?_; dsimp only)); refine Kd.R_lit Kd.string _ 9 ?hg (N := 88) ?hd (xs := ([js37] : List ByteArray)) (inner := [.string js37]) (ok := fun _ => True) (okp := fun _ => True) ?hr ?hp (fun _ hk => hk) trivial (Below.refl _ _) (Nat.le_refl _) (by simp) ?_; (case hd => rfl); (case hg => rfl); (case hr => first | (go_simp; done) | (go_simp; rfl)); (case hp => exact (Reps.one (show Kd.M Kd.string _ _ _ js37 [.string js37] from rfl) (Reps.none _ _))); intro v309 w42 ho43 hb hg_ hnew_; clear hg_ hnew_; (first | rw [← Ny308.out] at ho43 | (simp only [Int.reduceToNat] at ho43; rw [← Ny308.out] at ho43)); have n0_ := Aside0.mk (Kd.R_elder' (by (with_reducible repeat (first | apply Kd.R_alloc | apply Kd.R_drewN | apply Kd.R_drew)); exact HO307.out) (Kd.R_base ho43) hb); have n1_ := Aside0.mk (Kd.R_lower (Kd.R_new' ho43 (Kd.R_lt (by (with_reducible repeat (first | apply Kd.R_alloc | apply Kd.R_drewN | apply Kd.R_drew)); exact HO307.out))) (below_size (by repeat (first | (with_reducible first | exact HB.out | apply below_alloc | apply pw_below_drewN | apply below_drew1) | exact HB.out)))); have n2_ := Aside0.mk (below_step (by repeat (first | (with_reducible first | exact HB.out | apply below_alloc | apply pw_below_drewN | apply below_drew1) | exact HB.out)) hb); clear HO307; clear HB; have HO307 := n0_; have HO310 := n1_; have HB := n2_; clear n0_ n1_ n2_; clear hb ho43; obtain ⟨Ao45, co45, eo45⟩ := Kd.R_slice HO307.out; subst eo45) | ((with_reducible refine gate_builtin (b := .append) (xs := #[.tmp 88, .tmp 89]) rfl ?_); (try (refine gate_guard (by rfl) ?_; dsimp only)); at_builtin; refine Kd.R_append_rows Kd.string (w0 := w) w.heap.size rfl (.tmp 88) (.tmp 89) 22 9 (.string ⟨#[]⟩) 16 rfl Tryd.underlying22 info9 rfl (by decide) (by omega) v309 y308 t304 _ _ _ (fun k_ => some k_ ≠ (.slice Ao45 t304.length co45 : Value).ownBlock) (fun _ => False) rfl rfl ?aO ?aR (fun _ _ h => h) (fun _ h => h.elim) ?aF ?aB ?aS ?aL ?_; (case aR => repeat (first | exact (Kd.R_reads' HO307.out).2.2 | (with_reducible refine Kd.C_alloc ?_ _) | (with_reducible refine Kd.C_drewN ?_ _) | (with_reducible refine Kd.C_drew ?_))); (case aB => exact (by repeat (first | (with_reducible first | exact HB.out | apply below_alloc | apply pw_below_drewN | apply below_drew1) | exact HB.out))); (case aF => exact (fun k_ hk => Kd.fresh' (Kd.R_lt (by (with_reducible repeat (first | apply Kd.R_alloc | apply Kd.R_drewN | apply Kd.R_drew)); exact HO307.out)) k_ hk)); (case aO => exact (by (with_reducible repeat (first | apply Kd.R_alloc | apply Kd.R_drewN | apply Kd.R_drew)); exact Kd.R_mono HO310.out (fun _ hk => hk.2))); (case aS => exact (below_size (by repeat (first | (with_reducible first | exact HB.out | apply below_alloc | apply pw_below_drewN | apply below_drew1) | exact HB.out)))); (case aL => have := LMc38.out; omega); intro v312 w44 ho hb hg hat; rw [← Ny311.out] at ho; have n0_ := Aside0.mk (Kd.R_after (ok := (fun _ => True)) (by (with_reducible repeat (first | apply Kd.R_alloc | apply Kd.R_drewN | apply Kd.R_drew)); exact HO307.out) hg hat); have n1_ := Aside0.mk (hb); have n2_ := Aside0.mk (ho); clear HO307; clear HB; clear HO310; have HO307 := n0_; have HB := n1_; have HO313 := n2_; clear n0_ n1_ n2_; clear ho hb hg hat) | (go_at_call 32; (with_reducible refine (digest_Node.calls (rdOf ByteArray.empty l3 (ji12)) t305 t314 _ ?side1 A39.out).mono ?_); (case side1 => first | exact hG | exact GL.below hG (by repeat (first | (with_reducible first | exact HB.out | apply below_alloc | apply pw_below_drewN | apply below_drew1) | exact HB.out))); rintro e w46 ⟨rfl, hb⟩; have n0_ := Aside0.mk (Kd.R_below (by (with_reducible repeat (first | apply Kd.R_alloc | apply Kd.R_drewN | apply Kd.R_drew)); exact HO307.out) hb); have n1_ := Aside0.mk (Kd.R_below (by (with_reducible repeat (first | apply Kd.R_alloc | apply Kd.R_drewN | apply Kd.R_drew)); exact HO313.out) hb); have n2_ := Aside0.mk (below_step (by repeat (first | (with_reducible first | exact HB.out | apply below_alloc | apply pw_below_drewN | apply below_drew1) | exact HB.out)) hb); clear HO307; clear HO313; clear HB; have HO307 := n0_; have HO313 := n1_; have HB := n2_; clear n0_ n1_ n2_; (try clear hb); (try clear hb2); (try clear hk); (try clear hi))); try go_wp2_with (first | (go_at_call 31; (with_reducible refine (airchecklaw02_left.calls kj5 a2 t292 _ A17.out).mono ?_); rintro e w' ⟨rfl, ⟨nd, rfl⟩⟩; (try first | exact ⟨rfl, _, World.drewN_drewN _ _ _⟩ | exact ⟨rfl, _, Eq.trans (World.drewN_drewN _ _ _) (congrArg (World.drewN _) (Nat.add_assoc _ _ _))⟩)) | (go_at_call 28; (with_reducible refine (ih kj5 (by have := HJ5.out; omega) a0 (wrap64 (a1 - t292)) (wrap64 (a2 - t292)) _ _ tk false t304 t305 _ ?side1 ?side2 ?side3 A33.out).mono ?_); (case side1 => repeat (first | exact (Kd.C_below HR291.out (by repeat (first | (with_reducible first | exact HB.out | apply below_alloc | apply pw_below_drewN | apply below_drew1) | exact HB.out))) | (with_reducible refine Kd.C_alloc ?_ _) | (with_reducible refine Kd.C_drewN ?_ _) | (with_reducible refine Kd.C_drew ?_))); (case side2 => exact HC291.out); (case side3 => first | exact hG | exact GL.below hG (by repeat (first | (with_reducible first | exact HB.out | apply below_alloc | apply pw_below_drewN | apply below_drew1) | exact HB.out))); rintro e w41 ⟨v306, rfl, ho0, hb⟩; have n0_ := Aside0.mk (Kd.R_lower ho0 (below_size (by repeat (first | (with_reducible first | exact HB.out | apply below_alloc | apply pw_below_drewN | apply below_drew1) | exact HB.out)))); have n1_ := Aside0.mk (below_step (by repeat (first | (with_reducible first | exact HB.out | apply below_alloc | apply pw_below_drewN | apply below_drew1) | exact HB.out)) hb); clear HB; have HO307 := n0_; have HB := n1_; clear n0_ n1_; (try clear hb); (try clear hb2); (try clear hk); (try clear hi); (try clear ho0)) | ((with_reducible refine gate_dst (N := 88) rfl ?_); (try (refine gate_guard (by rfl) ?_; dsimp only)); refine Kd.R_lit Kd.string _ 9 ?hg (N := 88) ?hd (xs := ([js37] : List ByteArray)) (inner := [.string js37]) (ok := fun _ => True) (okp := fun _ => True) ?hr ?hp (fun _ hk => hk) trivial (Below.refl _ _) (Nat.le_refl _) (by simp) ?_; (case hd => rfl); (case hg => rfl); (case hr => first | (go_simp; done) | (go_simp; rfl)); (case hp => exact (Reps.one (show Kd.M Kd.string _ _ _ js37 [.string js37] from rfl) (Reps.none _ _))); intro v309 w42 ho43 hb hg_ hnew_; clear hg_ hnew_; (first | rw [← Ny308.out] at ho43 | (simp only [Int.reduceToNat] at ho43; rw [← Ny308.out] at ho43)); have n0_ := Aside0.mk (Kd.R_elder' (by (with_reducible repeat (first | apply Kd.R_alloc | apply Kd.R_drewN | apply Kd.R_drew)); exact HO307.out) (Kd.R_base ho43) hb); have n1_ := Aside0.mk (Kd.R_lower (Kd.R_new' ho43 (Kd.R_lt (by (with_reducible repeat (first | apply Kd.R_alloc | apply Kd.R_drewN | apply Kd.R_drew)); exact HO307.out))) (below_size (by repeat (first | (with_reducible first | exact HB.out | apply below_alloc | apply pw_below_drewN | apply below_drew1) | exact HB.out)))); have n2_ := Aside0.mk (below_step (by repeat (first | (with_reducible first | exact HB.out | apply below_alloc | apply pw_below_drewN | apply below_drew1) | exact HB.out)) hb); clear HO307; clear HB; have HO307 := n0_; have HO310 := n1_; have HB := n2_; clear n0_ n1_ n2_; clear hb ho43; obtain ⟨Ao45, co45, eo45⟩ := Kd.R_slice HO307.out; subst eo45) | ((with_reducible refine gate_builtin (b := .append) (xs := #[.tmp 88, .tmp 89]) rfl ?_); (try (refine gate_guard (by rfl) ?_; dsimp only)); at_builtin; refine Kd.R_append_rows Kd.string (w0 := w) w.heap.size rfl (.tmp 88) (.tmp 89) 22 9 (.string ⟨#[]⟩) 16 rfl Tryd.underlying22 info9 rfl (by decide) (by omega) v309 y308 t304 _ _ _ (fun k_ => some k_ ≠ (.slice Ao45 t304.length co45 : Value).ownBlock) (fun _ => False) rfl rfl ?aO ?aR (fun _ _ h => h) (fun _ h => h.elim) ?aF ?aB ?aS ?aL ?_; (case aR => repeat (first | exact (Kd.R_reads' HO307.out).2.2 | (with_reducible refine Kd.C_alloc ?_ _) | (with_reducible refine Kd.C_drewN ?_ _) | (with_reducible refine Kd.C_drew ?_))); (case aB => exact (by repeat (first | (with_reducible first | exact HB.out | apply below_alloc | apply pw_below_drewN | apply below_drew1) | exact HB.out))); (case aF => exact (fun k_ hk => Kd.fresh' (Kd.R_lt (by (with_reducible repeat (first | apply Kd.R_alloc | apply Kd.R_drewN | apply Kd.R_drew)); exact HO307.out)) k_ hk)); (case aO => exact (by (with_reducible repeat (first | apply Kd.R_alloc | apply Kd.R_drewN | apply Kd.R_drew)); exact Kd.R_mono HO310.out (fun _ hk => hk.2))); (case aS => exact (below_size (by repeat (first | (with_reducible first | exact HB.out | apply below_alloc | apply pw_below_drewN | apply below_drew1) | exact HB.out)))); (case aL => have := LMc38.out; omega); intro v312 w44 ho hb hg hat; rw [← Ny311.out] at ho; have n0_ := Aside0.mk (Kd.R_after (ok := (fun _ => True)) (by (with_reducible repeat (first | apply Kd.R_alloc | apply Kd.R_drewN | apply Kd.R_drew)); exact HO307.out) hg hat); have n1_ := Aside0.mk (hb); have n2_ := Aside0.mk (ho); clear HO307; clear HB; clear HO310; have HO307 := n0_; have HB := n1_; have HO313 := n2_; clear n0_ n1_ n2_; clear ho hb hg hat) | (go_at_call 32; (with_reducible refine (digest_Node.calls (rdOf ByteArray.empty l3 (ji12)) t305 t314 _ ?side1 A39.out).mono ?_); (case side1 => first | exact hG | exact GL.below hG (by repeat (first | (with_reducible first | exact HB.out | apply below_alloc | apply pw_below_drewN | apply below_drew1) | exact HB.out))); rintro e w46 ⟨rfl, hb⟩; have n0_ := Aside0.mk (Kd.R_below (by (with_reducible repeat (first | apply Kd.R_alloc | apply Kd.R_drewN | apply Kd.R_drew)); exact HO307.out) hb); have n1_ := Aside0.mk (Kd.R_below (by (with_reducible repeat (first | apply Kd.R_alloc | apply Kd.R_drewN | apply Kd.R_drew)); exact HO313.out) hb); have n2_ := Aside0.mk (below_step (by repeat (first | (with_reducible first | exact HB.out | apply below_alloc | apply pw_below_drewN | apply below_drew1) | exact HB.out)) hb); clear HO307; clear HO313; clear HB; have HO307 := n0_; have HO313 := n1_; have HB := n2_; clear n0_ n1_ n2_; (try clear hb); (try clear hb2); (try clear hk); (try clear hi))))
           go_ret2
           exact ⟨_, by first | rfl | (simp [errW_none, errW_some] <;> rfl) | (simp only [← hji12, ← hjs35, ← hjs37]; first | rfl | (simp [errW_none, errW_some] <;> rfl)) | (simp [*, errW_none, errW_some] <;> rfl), by (with_reducible repeat (first | apply Kd.R_alloc | apply Kd.R_drewN | apply Kd.R_drew)); exact Kd.R_mono HO313.out (fun _ hk => trivial), by repeat (first | (with_reducible first | exact HB.out | apply below_alloc | apply pw_below_drewN | apply below_drew1) | exact HB.out)⟩
          ·rw [if_neg c38] at H
           exact absurd H (by simp)
         ·rw [if_neg c36] at H
          exact absurd H (by simp)
        ·rw [if_neg c34] at H
         exact absurd H (by simp)
      ·rw [if_neg c16] at H
       exact absurd H (by simp)
     ·rw [if_neg c14] at H
      exact absurd H (by simp)
    ·rw [if_neg c13] at H
     exact absurd H (by simp)
end Go.Proofs.YtlmlimihgohchaaDoor.PD
end
section
/-
  What sides of the digest's laws comes to.
-/
set_option linter.unusedVariables false
set_option linter.unusedSimpArgs false
namespace Go.Proofs.YtlmlimihgohchaaDoor.DigSpec
open Go.RowKit Go.Proofs.YtlmlimihgohchaaDoorW.PrintWords Go.Proofs.YtlmlimihgohchaaDoorW.PrintLast Go.Proofs.YtlmlimihgohchaaDoorW.PrintMore Go.Proofs.YtlmlimihgohchaaDoor.Ext Go.Proofs.YtlmlimihgohchaaDoor.PD
theorem sides_sizes (q : List ByteArray) : ∀ (m n : Nat) (o : ByteArray) (whole : Bool), o.size = 32 → (∀ x ∈ q, x.size = 32) →
    (∀ x ∈ (Tree.sides Ext.hash preN o m n q whole).1, x.size ≤ 2000) ∧ (Tree.sides Ext.hash preN o m n q whole).1.length ≤ q.length ∧ (Tree.sides Ext.hash preN o m n q whole).2.size = 32 := by
  induction q with
  | nil => intro m n o whole ho hq; simp only [Tree.sides]; exact ⟨by simp, by simp, ho⟩
  | cons x q ih =>
    intro m n o whole ho hq
    have hx := hq x (by simp)
    have hq' : ∀ y ∈ q, y.size = 32 := fun y hy => hq y (by simp [hy])
    by_cases hn : n ≤ m
    · cases whole with
      | true => simp only [Tree.sides, if_pos hn, if_true]; exact ⟨by simp, by simp, ho⟩
      | false => simp only [Tree.sides, if_pos hn]; exact ⟨by simp, by simp, hq _ (List.getLast_mem _)⟩
    · by_cases hi : m ≤ Tree.left n
      · obtain ⟨h1, h2, h3⟩ := ih m (Tree.left n) o whole ho hq'
        simp only [Tree.sides, if_neg hn, if_pos hi]
        refine ⟨fun y hy => ?_, by simp; omega, hash_size _⟩
        rcases List.mem_cons.1 hy with rfl | hy
        · rw [one_size, h3]; omega
        · exact h1 y hy
      · obtain ⟨h1, h2, h3⟩ := ih (m - Tree.left n) (n - Tree.left n) o false ho hq'
        simp only [Tree.sides, if_neg hn, if_neg hi]
        refine ⟨fun y hy => ?_, by simp; omega, hash_size _⟩
        rcases List.mem_cons.1 hy with rfl | hy
        · rw [one_size, h3]; omega
        · exact h1 y hy
theorem sides_is (q : List ByteArray) : ∀ (m n k : Nat) (o : ByteArray) (whole : Bool), n ≤ 9223372036854775807 → m ≤ n → 1 ≤ m → o.size = 32 → (∀ x ∈ q, x.size = 32) → q.length ≤ 1000 → 2 * q.length + 70 < k →
    airchecklaw02_sides.f k o (m : Int) (n : Int) q.reverse whole = some (Tree.sides Ext.hash preN o m n q whole) := by
  induction q with
  | nil =>
    intro m n k o whole hn hm hm1 ho hq hl hk
    obtain ⟨k, rfl⟩ : ∃ q, k = q + 2 := ⟨k - 2, by omega⟩
    have e : (((([] : List ByteArray).reverse).length : Int) == 0) = true := rfl
    rw [airchecklaw02_sides.f, e, ite_self, airchecklaw02_sides.j0, if_pos rfl]
    cases whole <;> rfl
  | cons x q ih =>
    intro m n k o whole hn hm hm1 ho hq hl hk
    obtain ⟨k, rfl⟩ : ∃ q, k = q + 2 := ⟨k - 2, by omega⟩
    have hx := hq x (by simp)
    have hq' : ∀ y ∈ q, y.size = 32 := fun y hy => hq y (by simp [hy])
    simp only [List.length_cons] at hl hk
    rw [airchecklaw02_sides.f]
    have hlen : ((x :: q).reverse.length : Int) = ((q.length : Nat) : Int) + 1 := by simp
    have e : (((x :: q).reverse.length : Int) == 0) = false := by rw [hlen, beq_eq_false_iff_ne]; omega
    by_cases hn1 : n ≤ m
    · rw [if_pos (by omega), airchecklaw02_sides.j0, if_pos rfl]
      cases whole with
      | true => rw [if_pos rfl]; simp only [Tree.sides, if_pos hn1]; rfl
      | false =>
        have h0 : rdOf ByteArray.empty (x :: q).reverse 0 = (x :: q).getLast (by simp) := by
          refine rdOf_nat (i := 0) ?_
          rw [List.getElem?_reverse (by simp)]
          rw [List.getLast_eq_getElem, List.getElem?_eq_getElem (by simp)]
          simp
        rw [if_neg (by decide), hlen, if_neg (by omega), if_pos (by omega), h0]; simp only [Tree.sides, if_pos hn1]; rfl
    · have hlast : rdOf ByteArray.empty (x :: q).reverse ((q.length : Nat) : Int) = x := rdOf_nat (by simp)
      have htake : (x :: q).reverse.take q.length = q.reverse := by simp
      have hlt := Tree.left_lt (n := n) (by omega)
      have hp := Tree.left_pos n
      rw [if_neg (by omega), e, airchecklaw02_sides.j0]
      rw [if_neg (by decide), hlen, w64 (by omega) (by omega), show ((q.length : Nat) : Int) + 1 - 1 = ((q.length : Nat) : Int) by omega, if_pos (by omega), if_pos (by omega), if_pos (by omega), left_is n k (by omega) hn (by omega), Option.bind_some, Int.toNat_natCast, htake, hlast]
      by_cases hi1 : m ≤ Tree.left n
      · obtain ⟨h1, h2, h3⟩ := sides_sizes q m (Tree.left n) o whole ho hq'
        rw [if_pos (by omega), ih m (Tree.left n) k o whole (by omega) hi1 hm1 ho hq' (by omega) (by omega), Option.bind_some, preN_assoc, if_pos (by omega), if_pos (by rw [ByteArray.size_append, h3]; show 1 + 32 + _ ≤ _; omega), Option.bind_some, if_pos (by simp; omega), node_ok _ _ (by omega), Option.bind_some]
        simp only [Tree.sides, if_neg hn1, if_pos hi1]
        rfl
      · obtain ⟨h1, h2, h3⟩ := sides_sizes q (m - Tree.left n) (n - Tree.left n) o false ho hq'
        rw [if_neg (by omega), w64 (x := (m : Int) - _) (by omega) (by omega), w64 (x := (n : Int) - _) (by omega) (by omega), show (m : Int) - (Tree.left n : Nat) = ((m - Tree.left n : Nat) : Int) by omega, show (n : Int) - (Tree.left n : Nat) = ((n - Tree.left n : Nat) : Int) by omega,
          ih (m - Tree.left n) (n - Tree.left n) k o false (by omega) (by omega) (by omega) ho hq' (by omega) (by omega), Option.bind_some, preN_assoc, if_pos (by omega), if_pos (by rw [ByteArray.size_append, h3]; show 1 + _ + 32 ≤ _; omega), Option.bind_some, if_pos (by simp; omega), node_ok _ _ (by omega), Option.bind_some]
        simp only [Tree.sides, if_neg hn1, if_neg hi1]
        rfl
end Go.Proofs.YtlmlimihgohchaaDoor.DigSpec
end
section
-- Written by a program of this session out of the translation's print; not trusted: checked by the kernel.
namespace Go.Proofs.YtlmlimihgohchaaDoor.PD
open Go.Proofs.YtlmlimihgohchaaDoor.Ext
attribute [local go_sem] u32_signed u32_max
open Go.RowKit Go.Proofs.YtlmlimihgohchaaDoorW.PrintWords Go.Proofs.YtlmlimihgohchaaDoorW.PrintLast Go.Proofs.YtlmlimihgohchaaDoorW.PrintMore
attribute [local go_sem] max2_int min2_int max_two min_two max_three min_three max_four min_four   -- for this text's walks alone
set_option linter.unusedVariables false
set_option linter.unusedSimpArgs false
/-! ### airchecklaw02_DigestExtensionBinding: function 8 -/
def airchecklaw02_DigestExtensionBinding.j0 : Nat → ByteArray → List ByteArray → ByteArray → List ByteArray → Int → Int → Bool → Bool → Option (Bool)
 | 0, _, _, _, _, _, _, _, _ => none
 | k + 1, x0, x1, x2, x3, x4, x6, x15, x49 => if x49 = true then (some x15) else ((airchecklaw02_sides.f k x0 x4 x6 x1 true).bind fun bt324 => ((airchecklaw02_sides.f k x2 x4 x6 x3 true).bind fun bt328 => (if x15 = true then ((airchecklaw02_collide.f k bt324.1 bt328.1).bind fun t332 => (some t332)) else (some false))))
def airchecklaw02_DigestExtensionBinding.f (k : Nat) (a0 : ByteArray) (l1 : List ByteArray) (a2 : ByteArray) (l3 : List ByteArray) (a4 : Int) (a5 : ByteArray) (a6 : Int) : Option (Bool) := (airchecklaw02_sane.f k).bind fun t315 => ((airchecklaw02_few.f k l1 70).bind fun t316 => ((airchecklaw02_few.f k l3 70).bind fun t319 => ((digest_VerifyExtension.f a0 a4 a5 a6 t316).bind fun t322 => ((digest_VerifyExtension.f a2 a4 a5 a6 t319).bind fun t323 => (if t322 = true then (if t323 = true then (airchecklaw02_DigestExtensionBinding.j0 k a0 t316 a2 t319 a4 a6 t315 (a0.toList == a2.toList)) else (airchecklaw02_DigestExtensionBinding.j0 k a0 t316 a2 t319 a4 a6 t315 true)) else (airchecklaw02_DigestExtensionBinding.j0 k a0 t316 a2 t319 a4 a6 t315 true))))))
set_option maxHeartbeats 8000000 in
set_option maxRecDepth 100000 in
theorem airchecklaw02_DigestExtensionBinding.calls (k : Nat) (a0 : ByteArray) (A1 : Option Addr) (c1 : Nat) (l1 : List ByteArray) (a2 : ByteArray) (A3 : Option Addr) (c3 : Nat) (l3 : List ByteArray) (a4 : Int) (a5 : ByteArray) (a6 : Int) (r : Bool) (w : World) (hr1 : Kd.C Kd.string w A1 l1.length l1) (hc1 : l1.length ≤ c1) (hr3 : Kd.C Kd.string w A3 l3.length l3) (hc3 : l3.length ≤ c3) (hG : GL w) (h : airchecklaw02_DigestExtensionBinding.f k a0 l1 a2 l3 a4 a5 a6 = some r) :
  Calls Tryd.prog 8 #[.string a0, .slice A1 l1.length c1, .string a2, .slice A3 l3.length c3, .int .i64 a4, .string a5, .int .i64 a6] w fun e w' => e = .returned (.bool r) ∧ Below w.heap.size w w' := by
 have HR1 := Aside0.mk hr1
 have HC1 := Aside0.mk hc1
 clear hr1 hc1
 have HR3 := Aside0.mk hr3
 have HC3 := Aside0.mk hc3
 clear hr3 hc3
 have HB := Aside0.mk (Below.refl w.heap.size w)
 have H : ((airchecklaw02_sane.f k).bind fun t315 => ((airchecklaw02_few.f k l1 70).bind fun t316 => ((airchecklaw02_few.f k l3 70).bind fun t319 => ((digest_VerifyExtension.f a0 a4 a5 a6 t316).bind fun t322 => ((digest_VerifyExtension.f a2 a4 a5 a6 t319).bind fun t323 => (if t322 = true then (if t323 = true then (airchecklaw02_DigestExtensionBinding.j0 k a0 t316 a2 t319 a4 a6 t315 (a0.toList == a2.toList)) else (airchecklaw02_DigestExtensionBinding.j0 k a0 t316 a2 t319 a4 a6 t315 true)) else (airchecklaw02_DigestExtensionBinding.j0 k a0 t316 a2 t319 a4 a6 t315 true))))))) = some r := h
 clear h
 replace H := Option.bind_eq_some_iff.mp H
 obtain ⟨t315, A80, H⟩ := H
 replace H : ((airchecklaw02_few.f k l1 70).bind fun t316 => ((airchecklaw02_few.f k l3 70).bind fun t319 => ((digest_VerifyExtension.f a0 a4 a5 a6 t316).bind fun t322 => ((digest_VerifyExtension.f a2 a4 a5 a6 t319).bind fun t323 => (if t322 = true then (if t323 = true then (airchecklaw02_DigestExtensionBinding.j0 k a0 t316 a2 t319 a4 a6 t315 (a0.toList == a2.toList)) else (airchecklaw02_DigestExtensionBinding.j0 k a0 t316 a2 t319 a4 a6 t315 true)) else (airchecklaw02_DigestExtensionBinding.j0 k a0 t316 a2 t319 a4 a6 t315 true)))))) = some r := H
 have A8 := Aside0.mk A80
 clear A80
 replace H := Option.bind_eq_some_iff.mp H
 obtain ⟨t316, A90, H⟩ := H
 replace H : ((airchecklaw02_few.f k l3 70).bind fun t319 => ((digest_VerifyExtension.f a0 a4 a5 a6 t316).bind fun t322 => ((digest_VerifyExtension.f a2 a4 a5 a6 t319).bind fun t323 => (if t322 = true then (if t323 = true then (airchecklaw02_DigestExtensionBinding.j0 k a0 t316 a2 t319 a4 a6 t315 (a0.toList == a2.toList)) else (airchecklaw02_DigestExtensionBinding.j0 k a0 t316 a2 t319 a4 a6 t315 true)) else (airchecklaw02_DigestExtensionBinding.j0 k a0 t316 a2 t319 a4 a6 t315 true))))) = some r := H
 have A9 := Aside0.mk A90
 clear A90
 replace H := Option.bind_eq_some_iff.mp H
 obtain ⟨t319, A100, H⟩ := H
 replace H : ((digest_VerifyExtension.f a0 a4 a5 a6 t316).bind fun t322 => ((digest_VerifyExtension.f a2 a4 a5 a6 t319).bind fun t323 => (if t322 = true then (if t323 = true then (airchecklaw02_DigestExtensionBinding.j0 k a0 t316 a2 t319 a4 a6 t315 (a0.toList == a2.toList)) else (airchecklaw02_DigestExtensionBinding.j0 k a0 t316 a2 t319 a4 a6 t315 true)) else (airchecklaw02_DigestExtensionBinding.j0 k a0 t316 a2 t319 a4 a6 t315 true)))) = some r := H
 have A10 := Aside0.mk A100
 clear A100
 replace H := Option.bind_eq_some_iff.mp H
 obtain ⟨t322, A110, H⟩ := H
 replace H : ((digest_VerifyExtension.f a2 a4 a5 a6 t319).bind fun t323 => (if t322 = true then (if t323 = true then (airchecklaw02_DigestExtensionBinding.j0 k a0 t316 a2 t319 a4 a6 t315 (a0.toList == a2.toList)) else (airchecklaw02_DigestExtensionBinding.j0 k a0 t316 a2 t319 a4 a6 t315 true)) else (airchecklaw02_DigestExtensionBinding.j0 k a0 t316 a2 t319 a4 a6 t315 true))) = some r := H
 have A11 := Aside0.mk A110
 clear A110
 replace H := Option.bind_eq_some_iff.mp H
 obtain ⟨t323, A120, H⟩ := H
 replace H : (if t322 = true then (if t323 = true then (airchecklaw02_DigestExtensionBinding.j0 k a0 t316 a2 t319 a4 a6 t315 (a0.toList == a2.toList)) else (airchecklaw02_DigestExtensionBinding.j0 k a0 t316 a2 t319 a4 a6 t315 true)) else (airchecklaw02_DigestExtensionBinding.j0 k a0 t316 a2 t319 a4 a6 t315 true)) = some r := H
 have A12 := Aside0.mk A120
 clear A120
 have HC13 := Aside0.mk H
 clear H
 go_enter Tryd.func8, Tryd.ntmps8
 go_upto_region 6 with (first | ((with_reducible refine gate_callee (f := 12) rfl ?_); refine goesL_ (some 22) rfl rfl Tryd.func12 (by kernel_rfl) rfl #[] rfl (by (try simp only [List.map_toArray, List.map_cons, List.map_nil]); first | done | rfl | (simp only [List.length_drop, List.length_take]; rfl)) ?_; (with_reducible refine (airchecklaw02_sane.calls k  t315 _ ?side1 A8.out).mono ?_); (case side1 => first | exact hG | exact GL.below hG (by repeat (first | (with_reducible first | exact HB.out | apply below_alloc | apply pw_below_drewN | apply below_drew1) | exact HB.out))); rintro e w14 ⟨rfl, hb⟩; refine ⟨_, rfl, ?_⟩; have n0_ := Aside0.mk (below_step (by repeat (first | (with_reducible first | exact HB.out | apply below_alloc | apply pw_below_drewN | apply below_drew1) | exact HB.out)) hb); clear HB; have HB := n0_; clear n0_; (try clear hb); (try clear hb2); (try clear hk); (try clear hi)) | ((with_reducible refine gate_callee (f := 13) rfl ?_); refine goesL_ (some 24) rfl rfl Tryd.func13 (by kernel_rfl) rfl #[.slice A1 l1.length c1, .int .i64 70] rfl (by (try simp only [List.map_toArray, List.map_cons, List.map_nil]); first | done | rfl | (simp only [List.length_drop, List.length_take]; rfl)) ?_; (with_reducible refine (airchecklaw02_few.calls k _ _ l1 70 t316 _ ?side1 ?side2 A9.out).mono ?_); (case side1 => repeat (first | exact (Kd.C_below HR1.out HB.out) | (with_reducible refine Kd.C_alloc ?_ _) | (with_reducible refine Kd.C_drewN ?_ _) | (with_reducible refine Kd.C_drew ?_))); (case side2 => exact HC1.out); rintro e w15 ⟨v317, rfl, ho0, hb⟩; refine ⟨_, rfl, ?_⟩; have n0_ := Aside0.mk (Kd.R_lower ho0 (below_size (by repeat (first | (with_reducible first | exact HB.out | apply below_alloc | apply pw_below_drewN | apply below_drew1) | exact HB.out)))); have n1_ := Aside0.mk (below_step (by repeat (first | (with_reducible first | exact HB.out | apply below_alloc | apply pw_below_drewN | apply below_drew1) | exact HB.out)) hb); clear HB; have HO318 := n0_; have HB := n1_; clear n0_ n1_; (try clear hb); (try clear hb2); (try clear hk); (try clear hi); (try clear ho0)) | ((with_reducible refine gate_callee (f := 13) rfl ?_); refine goesL_ (some 26) rfl rfl Tryd.func13 (by kernel_rfl) rfl #[.slice A3 l3.length c3, .int .i64 70] rfl (by (try simp only [List.map_toArray, List.map_cons, List.map_nil]); first | done | rfl | (simp only [List.length_drop, List.length_take]; rfl)) ?_; (with_reducible refine (airchecklaw02_few.calls k _ _ l3 70 t319 _ ?side1 ?side2 A10.out).mono ?_); (case side1 => repeat (first | exact (Kd.C_below HR3.out HB.out) | (with_reducible refine Kd.C_alloc ?_ _) | (with_reducible refine Kd.C_drewN ?_ _) | (with_reducible refine Kd.C_drew ?_))); (case side2 => exact HC3.out); rintro e w16 ⟨v320, rfl, ho0, hb⟩; refine ⟨_, rfl, ?_⟩; have n0_ := Aside0.mk (Kd.R_elder' (by (with_reducible repeat (first | apply Kd.R_alloc | apply Kd.R_drewN | apply Kd.R_drew)); exact HO318.out) (Kd.R_base ho0) hb); have n1_ := Aside0.mk (Kd.R_lower (Kd.R_new' ho0 (Kd.R_lt (by (with_reducible repeat (first | apply Kd.R_alloc | apply Kd.R_drewN | apply Kd.R_drew)); exact HO318.out))) (below_size (by repeat (first | (with_reducible first | exact HB.out | apply below_alloc | apply pw_below_drewN | apply below_drew1) | exact HB.out)))); have n2_ := Aside0.mk (below_step (by repeat (first | (with_reducible first | exact HB.out | apply below_alloc | apply pw_below_drewN | apply below_drew1) | exact HB.out)) hb); clear HO318; clear HB; have HO318 := n0_; have HO321 := n1_; have HB := n2_; clear n0_ n1_ n2_; (try clear hb); (try clear hb2); (try clear hk); (try clear hi); (try clear ho0); obtain ⟨Ao17, co17, eo17⟩ := Kd.R_slice HO318.out; subst eo17) | ((with_reducible refine gate_callee (f := 23) rfl ?_); refine goesL_ (some 32) rfl rfl Tryd.func23 (by kernel_rfl) rfl #[.string a0, .int .i64 a4, .string a5, .int .i64 a6, .slice Ao17 t316.length co17] rfl (by (try simp only [List.map_toArray, List.map_cons, List.map_nil]); first | done | rfl | (simp only [List.length_drop, List.length_take]; rfl)) ?_; (with_reducible refine (digest_VerifyExtension.calls a0 a4 a5 a6 _ _ t316 t322 _ ?side1 ?side2 ?side3 A11.out).mono ?_); (case side1 => repeat (first | exact (Kd.R_reads' HO318.out).2.2 | (with_reducible refine Kd.C_alloc ?_ _) | (with_reducible refine Kd.C_drewN ?_ _) | (with_reducible refine Kd.C_drew ?_))); (case side2 => exact (Kd.R_reads' HO318.out).2.1); (case side3 => first | exact hG | exact GL.below hG (by repeat (first | (with_reducible first | exact HB.out | apply below_alloc | apply pw_below_drewN | apply below_drew1) | exact HB.out))); rintro e w18 ⟨rfl, hb⟩; refine ⟨_, rfl, ?_⟩; have n0_ := Aside0.mk (Kd.R_below (by (with_reducible repeat (first | apply Kd.R_alloc | apply Kd.R_drewN | apply Kd.R_drew)); exact HO318.out) hb); have n1_ := Aside0.mk (Kd.R_below (by (with_reducible repeat (first | apply Kd.R_alloc | apply Kd.R_drewN | apply Kd.R_drew)); exact HO321.out) hb); have n2_ := Aside0.mk (below_step (by repeat (first | (with_reducible first | exact HB.out | apply below_alloc | apply pw_below_drewN | apply below_drew1) | exact HB.out)) hb); clear HO318; clear HO321; clear HB; have HO318 := n0_; have HO321 := n1_; have HB := n2_; clear n0_ n1_ n2_; (try clear hb); (try clear hb2); (try clear hk); (try clear hi); obtain ⟨Ao19, co19, eo19⟩ := Kd.R_slice HO321.out; subst eo19) | ((with_reducible refine gate_callee (f := 23) rfl ?_); refine goesL_ (some 38) rfl rfl Tryd.func23 (by kernel_rfl) rfl #[.string a2, .int .i64 a4, .string a5, .int .i64 a6, .slice Ao19 t319.length co19] rfl (by (try simp only [List.map_toArray, List.map_cons, List.map_nil]); first | done | rfl | (simp only [List.length_drop, List.length_take]; rfl)) ?_; (with_reducible refine (digest_VerifyExtension.calls a2 a4 a5 a6 _ _ t319 t323 _ ?side1 ?side2 ?side3 A12.out).mono ?_); (case side1 => repeat (first | exact (Kd.R_reads' HO321.out).2.2 | (with_reducible refine Kd.C_alloc ?_ _) | (with_reducible refine Kd.C_drewN ?_ _) | (with_reducible refine Kd.C_drew ?_))); (case side2 => exact (Kd.R_reads' HO321.out).2.1); (case side3 => first | exact hG | exact GL.below hG (by repeat (first | (with_reducible first | exact HB.out | apply below_alloc | apply pw_below_drewN | apply below_drew1) | exact HB.out))); rintro e w20 ⟨rfl, hb⟩; refine ⟨_, rfl, ?_⟩; have n0_ := Aside0.mk (Kd.R_below (by (with_reducible repeat (first | apply Kd.R_alloc | apply Kd.R_drewN | apply Kd.R_drew)); exact HO318.out) hb); have n1_ := Aside0.mk (Kd.R_below (by (with_reducible repeat (first | apply Kd.R_alloc | apply Kd.R_drewN | apply Kd.R_drew)); exact HO321.out) hb); have n2_ := Aside0.mk (below_step (by repeat (first | (with_reducible first | exact HB.out | apply below_alloc | apply pw_below_drewN | apply below_drew1) | exact HB.out)) hb); clear HO318; clear HO321; clear HB; have HO318 := n0_; have HO321 := n1_; have HB := n2_; clear n0_ n1_ n2_; (try clear hb); (try clear hb2); (try clear hk); (try clear hi)))
 (try simp only [Act.put, List.setIfInBounds_toArray, List.set_cons_zero, List.set_cons_succ])
 go_cut [49] (fun v49 wc => ∃ (kq : Nat) (x49_12 : Bool), v49 = .bool x49_12 ∧ Aside0 (airchecklaw02_DigestExtensionBinding.j0 kq a0 t316 a2 t319 a4 a6 t315 x49_12 = some r) ∧ Aside0 (kq ≤ k) ∧ Aside0 (Kd.R Kd.string 9 wc w.heap.size (fun k_ => some k_ ≠ ((.slice Ao19 t319.length co19) : Value).ownBlock) (.slice Ao17 t316.length co17) t316) ∧ Aside0 (Kd.R Kd.string 9 wc w.heap.size (fun k_ => some k_ ≠ ((.slice Ao17 t316.length co17) : Value).ownBlock) (.slice Ao19 t319.length co19) t319) ∧ Aside0 (Below w.heap.size w wc))
 case first =>
  have H := HC13.out
  clear HC13
  by_cases c21 : t322 = true
  ·subst c21
   have H1 : (if t323 = true then (airchecklaw02_DigestExtensionBinding.j0 k a0 t316 a2 t319 a4 a6 t315 (a0.toList == a2.toList)) else (airchecklaw02_DigestExtensionBinding.j0 k a0 t316 a2 t319 a4 a6 t315 true)) = some r := by rw [if_pos rfl] at H; exact H
   clear H
   have H := H1
   clear H1
   by_cases c22 : t323 = true
   ·subst c22
    have H1 : (airchecklaw02_DigestExtensionBinding.j0 k a0 t316 a2 t319 a4 a6 t315 (a0.toList == a2.toList)) = some r := by rw [if_pos rfl] at H; exact H
    clear H
    have H := H1
    clear H1
    have H' := Aside0.mk H
    clear H
    go_wp2
    go_meet
    case rel => exact ⟨_, ((a0.toList == a2.toList)), (by first | rfl | (simp; done) | (simp [*]; done)), H', ⟨by first | omega | exact Nat.le_refl _⟩, ⟨by (with_reducible repeat (first | apply Kd.R_alloc | apply Kd.R_drewN | apply Kd.R_drew)); exact Kd.R_mono HO318.out (fun _ hk => hk.2)⟩, ⟨by (with_reducible repeat (first | apply Kd.R_alloc | apply Kd.R_drewN | apply Kd.R_drew)); exact Kd.R_mono HO321.out (fun _ hk => hk.2)⟩, ⟨by repeat (first | (with_reducible first | exact HB.out | apply below_alloc | apply pw_below_drewN | apply below_drew1) | exact HB.out)⟩⟩
   ·replace c22 := Bool.eq_false_iff.mpr c22
    subst c22
    have H1 : (airchecklaw02_DigestExtensionBinding.j0 k a0 t316 a2 t319 a4 a6 t315 true) = some r := by rw [if_neg (show ¬ (false = true) by decide)] at H; exact H
    clear H
    have H := H1
    clear H1
    have H' := Aside0.mk H
    clear H
    go_wp2
    go_meet
    case rel => exact ⟨_, (true), (by first | rfl | (simp; done) | (simp [*]; done)), H', ⟨by first | omega | exact Nat.le_refl _⟩, ⟨by (with_reducible repeat (first | apply Kd.R_alloc | apply Kd.R_drewN | apply Kd.R_drew)); exact Kd.R_mono HO318.out (fun _ hk => hk.2)⟩, ⟨by (with_reducible repeat (first | apply Kd.R_alloc | apply Kd.R_drewN | apply Kd.R_drew)); exact Kd.R_mono HO321.out (fun _ hk => hk.2)⟩, ⟨by repeat (first | (with_reducible first | exact HB.out | apply below_alloc | apply pw_below_drewN | apply below_drew1) | exact HB.out)⟩⟩
  ·replace c21 := Bool.eq_false_iff.mpr c21
   subst c21
   have H1 : (airchecklaw02_DigestExtensionBinding.j0 k a0 t316 a2 t319 a4 a6 t315 true) = some r := by rw [if_neg (show ¬ (false = true) by decide)] at H; exact H
   clear H
   have H := H1
   clear H1
   have H' := Aside0.mk H
   clear H
   go_wp2
   go_meet
   case rel => exact ⟨_, (true), (by first | rfl | (simp; done) | (simp [*]; done)), H', ⟨by first | omega | exact Nat.le_refl _⟩, ⟨by (with_reducible repeat (first | apply Kd.R_alloc | apply Kd.R_drewN | apply Kd.R_drew)); exact Kd.R_mono HO318.out (fun _ hk => hk.2)⟩, ⟨by (with_reducible repeat (first | apply Kd.R_alloc | apply Kd.R_drewN | apply Kd.R_drew)); exact Kd.R_mono HO321.out (fun _ hk => hk.2)⟩, ⟨by repeat (first | (with_reducible first | exact HB.out | apply below_alloc | apply pw_below_drewN | apply below_drew1) | exact HB.out)⟩⟩
 case rest =>
  clear HC13
  try clear c1
  try clear c2
  try clear p2
  try clear c3
  try clear c8
  try clear c12
  try clear c13
  try clear c21
  try clear c22
  obtain ⟨kq, x49_12, rfl, HA, HJ12, HO_1, HO_3, HB⟩ := hcut
  cases kq with
  | zero => exact absurd HA.out (by simp [airchecklaw02_DigestExtensionBinding.j0])
  | succ kj12 =>
   have H := HA.out
   clear HA
   simp only [airchecklaw02_DigestExtensionBinding.j0] at H
   by_cases c23 : x49_12 = true
   ·subst c23
    have H1 : (some t315) = some r := by rw [if_pos rfl] at H; exact H
    clear H
    have H := H1
    clear H1
    obtain rfl := Option.some.inj H
    go_wp2
    go_ret
    exact ⟨by first | rfl | (simp [errW_none, errW_some] <;> rfl) | (simp [*, errW_none, errW_some] <;> rfl), by repeat (first | (with_reducible first | exact HB.out | apply below_alloc | apply pw_below_drewN | apply below_drew1) | exact HB.out)⟩
   ·replace c23 := Bool.eq_false_iff.mpr c23
    subst c23
    have H1 : ((airchecklaw02_sides.f kj12 a0 a4 a6 t316 true).bind fun bt324 => ((airchecklaw02_sides.f kj12 a2 a4 a6 t319 true).bind fun bt328 => (if t315 = true then ((airchecklaw02_collide.f kj12 bt324.1 bt328.1).bind fun t332 => (some t332)) else (some false)))) = some r := by rw [if_neg (show ¬ (false = true) by decide)] at H; exact H
    clear H
    have H := H1
    clear H1
    replace H := Option.bind_eq_some_iff.mp H
    obtain ⟨⟨t324, t325⟩, A240, H⟩ := H
    replace H : ((airchecklaw02_sides.f kj12 a2 a4 a6 t319 true).bind fun bt328 => (if t315 = true then ((airchecklaw02_collide.f kj12 t324 bt328.1).bind fun t332 => (some t332)) else (some false))) = some r := H
    have A24 := Aside0.mk A240
    clear A240
    replace H := Option.bind_eq_some_iff.mp H
    obtain ⟨⟨t328, t329⟩, A250, H⟩ := H
    replace H : (if t315 = true then ((airchecklaw02_collide.f kj12 t324 t328).bind fun t332 => (some t332)) else (some false)) = some r := H
    have A25 := Aside0.mk A250
    clear A250
    by_cases c26 : t315 = true
    ·subst c26
     have H1 : ((airchecklaw02_collide.f kj12 t324 t328).bind fun t332 => (some t332)) = some r := by rw [if_pos rfl] at H; exact H
     clear H
     have H := H1
     clear H1
     replace H := Option.bind_eq_some_iff.mp H
     obtain ⟨t332, A270, H⟩ := H
     replace H : (some t332) = some r := H
     have A27 := Aside0.mk A270
     clear A270
     obtain rfl := Option.some.inj H
     go_wp2_with (first | ((with_reducible refine gate_callee (f := 28) rfl ?_); refine goesL_ (some 56) rfl rfl Tryd.func28 (by kernel_rfl) rfl #[.string a0, .int .i64 a4, .int .i64 a6, .slice Ao17 t316.length co17, .bool true] rfl (by (try simp only [List.map_toArray, List.map_cons, List.map_nil]); first | done | rfl | (simp only [List.length_drop, List.length_take]; rfl)) ?_; (with_reducible refine (airchecklaw02_sides.calls kj12 a0 a4 a6 _ _ t316 true t324 t325 _ ?side1 ?side2 ?side3 A24.out).mono ?_); (case side1 => repeat (first | exact (Kd.R_reads' HO_1.out).2.2 | (with_reducible refine Kd.C_alloc ?_ _) | (with_reducible refine Kd.C_drewN ?_ _) | (with_reducible refine Kd.C_drew ?_))); (case side2 => exact (Kd.R_reads' HO_1.out).2.1); (case side3 => first | exact hG | exact GL.below hG (by repeat (first | (with_reducible first | exact HB.out | apply below_alloc | apply pw_below_drewN | apply below_drew1) | exact HB.out))); rintro e w28 ⟨v326, rfl, ho0, hb⟩; refine ⟨_, rfl, ?_⟩; have n0_ := Aside0.mk (Kd.R_elder' (by (with_reducible repeat (first | apply Kd.R_alloc | apply Kd.R_drewN | apply Kd.R_drew)); exact HO_1.out) (Kd.R_base ho0) hb); have n1_ := Aside0.mk (Kd.R_elder' (by (with_reducible repeat (first | apply Kd.R_alloc | apply Kd.R_drewN | apply Kd.R_drew)); exact HO_3.out) (Kd.R_base ho0) hb); have n2_ := Aside0.mk (Kd.R_lower (Kd.R_new' (Kd.R_new' ho0 (Kd.R_lt (by (with_reducible repeat (first | apply Kd.R_alloc | apply Kd.R_drewN | apply Kd.R_drew)); exact HO_1.out))) (Kd.R_lt (by (with_reducible repeat (first | apply Kd.R_alloc | apply Kd.R_drewN | apply Kd.R_drew)); exact HO_3.out))) (below_size (by repeat (first | (with_reducible first | exact HB.out | apply below_alloc | apply pw_below_drewN | apply below_drew1) | exact HB.out)))); have n3_ := Aside0.mk (below_step (by repeat (first | (with_reducible first | exact HB.out | apply below_alloc | apply pw_below_drewN | apply below_drew1) | exact HB.out)) hb); clear HO_1; clear HO_3; clear HB; have HO_1 := n0_; have HO_3 := n1_; have HO327 := n2_; have HB := n3_; clear n0_ n1_ n2_ n3_; (try clear hb); (try clear hb2); (try clear hk); (try clear hi); (try clear ho0)) | ((with_reducible refine gate_callee (f := 28) rfl ?_); refine goesL_ (some 64) rfl rfl Tryd.func28 (by kernel_rfl) rfl #[.string a2, .int .i64 a4, .int .i64 a6, .slice Ao19 t319.length co19, .bool true] rfl (by (try simp only [List.map_toArray, List.map_cons, List.map_nil]); first | done | rfl | (simp only [List.length_drop, List.length_take]; rfl)) ?_; (with_reducible refine (airchecklaw02_sides.calls kj12 a2 a4 a6 _ _ t319 true t328 t329 _ ?side1 ?side2 ?side3 A25.out).mono ?_); (case side1 => repeat (first | exact (Kd.R_reads' HO_3.out).2.2 | (with_reducible refine Kd.C_alloc ?_ _) | (with_reducible refine Kd.C_drewN ?_ _) | (with_reducible refine Kd.C_drew ?_))); (case side2 => exact (Kd.R_reads' HO_3.out).2.1); (case side3 => first | exact hG | exact GL.below hG (by repeat (first | (with_reducible first | exact HB.out | apply below_alloc | apply pw_below_drewN | apply below_drew1) | exact HB.out))); rintro e w29 ⟨v330, rfl, ho0, hb⟩; refine ⟨_, rfl, ?_⟩; have n0_ := Aside0.mk (Kd.R_elder' (by (with_reducible repeat (first | apply Kd.R_alloc | apply Kd.R_drewN | apply Kd.R_drew)); exact HO_1.out) (Kd.R_base ho0) hb); have n1_ := Aside0.mk (Kd.R_elder' (by (with_reducible repeat (first | apply Kd.R_alloc | apply Kd.R_drewN | apply Kd.R_drew)); exact HO_3.out) (Kd.R_base ho0) hb); have n2_ := Aside0.mk (Kd.R_elder' (by (with_reducible repeat (first | apply Kd.R_alloc | apply Kd.R_drewN | apply Kd.R_drew)); exact HO327.out) (Kd.R_base ho0) hb); have n3_ := Aside0.mk (Kd.R_lower (Kd.R_new' (Kd.R_new' (Kd.R_new' ho0 (Kd.R_lt (by (with_reducible repeat (first | apply Kd.R_alloc | apply Kd.R_drewN | apply Kd.R_drew)); exact HO_1.out))) (Kd.R_lt (by (with_reducible repeat (first | apply Kd.R_alloc | apply Kd.R_drewN | apply Kd.R_drew)); exact HO_3.out))) (Kd.R_lt (by (with_reducible repeat (first | apply Kd.R_alloc | apply Kd.R_drewN | apply Kd.R_drew)); exact HO327.out))) (below_size (by repeat (first | (with_reducible first | exact HB.out | apply below_alloc | apply pw_below_drewN | apply below_drew1) | exact HB.out)))); have n4_ := Aside0.mk (below_step (by repeat (first | (with_reducible first | exact HB.out | apply below_alloc | apply pw_below_drewN | apply below_drew1) | exact HB.out)) hb); clear HO_1; clear HO_3; clear HO327; clear HB; have HO_1 := n0_; have HO_3 := n1_; have HO327 := n2_; have HO331 := n3_; have HB := n4_; clear n0_ n1_ n2_ n3_ n4_; (try clear hb); (try clear hb2); (try clear hk); (try clear hi); (try clear ho0); obtain ⟨Ao30, co30, eo30⟩ := Kd.R_slice HO327.out; subst eo30; obtain ⟨Ao31, co31, eo31⟩ := Kd.R_slice HO331.out; subst eo31) | (go_at_call 27; (with_reducible refine (airchecklaw02_collide.calls kj12 _ _ t324 _ _ t328 t332 _ ?side1 ?side2 ?side3 ?side4 ?side5 A27.out).mono ?_); (case side1 => repeat (first | exact (Kd.R_reads' HO327.out).2.2 | (with_reducible refine Kd.C_alloc ?_ _) | (with_reducible refine Kd.C_drewN ?_ _) | (with_reducible refine Kd.C_drew ?_))); (case side2 => exact (Kd.R_reads' HO327.out).2.1); (case side3 => repeat (first | exact (Kd.R_reads' HO331.out).2.2 | (with_reducible refine Kd.C_alloc ?_ _) | (with_reducible refine Kd.C_drewN ?_ _) | (with_reducible refine Kd.C_drew ?_))); (case side4 => exact (Kd.R_reads' HO331.out).2.1); (case side5 => first | exact hG | exact GL.below hG (by repeat (first | (with_reducible first | exact HB.out | apply below_alloc | apply pw_below_drewN | apply below_drew1) | exact HB.out))); rintro e w32 ⟨rfl, hb⟩; have n0_ := Aside0.mk (Kd.R_below (by (with_reducible repeat (first | apply Kd.R_alloc | apply Kd.R_drewN | apply Kd.R_drew)); exact HO_1.out) hb); have n1_ := Aside0.mk (Kd.R_below (by (with_reducible repeat (first | apply Kd.R_alloc | apply Kd.R_drewN | apply Kd.R_drew)); exact HO_3.out) hb); have n2_ := Aside0.mk (Kd.R_below (by (with_reducible repeat (first | apply Kd.R_alloc | apply Kd.R_drewN | apply Kd.R_drew)); exact HO327.out) hb); have n3_ := Aside0.mk (Kd.R_below (by (with_reducible repeat (first | apply Kd.R_alloc | apply Kd.R_drewN | apply Kd.R_drew)); exact HO331.out) hb); have n4_ := Aside0.mk (below_step (by repeat (first | (with_reducible first | exact HB.out | apply below_alloc | apply pw_below_drewN | apply below_drew1) | exact HB.out)) hb); clear HO_1; clear HO_3; clear HO327; clear HO331; clear HB; have HO_1 := n0_; have HO_3 := n1_; have HO327 := n2_; have HO331 := n3_; have HB := n4_; clear n0_ n1_ n2_ n3_ n4_; (try clear hb); (try clear hb2); (try clear hk); (try clear hi)))
     go_ret
     exact ⟨by first | rfl | (simp [errW_none, errW_some] <;> rfl) | (simp [*, errW_none, errW_some] <;> rfl), by repeat (first | (with_reducible first | exact HB.out | apply below_alloc | apply pw_below_drewN | apply below_drew1) | exact HB.out)⟩
    ·replace c26 := Bool.eq_false_iff.mpr c26
     subst c26
     have H1 : (some false) = some r := by rw [if_neg (show ¬ (false = true) by decide)] at H; exact H
     clear H
     have H := H1
     clear H1
     obtain rfl := Option.some.inj H
     go_wp2_with (first | ((with_reducible refine gate_callee (f := 28) rfl ?_); refine goesL_ (some 56) rfl rfl Tryd.func28 (by kernel_rfl) rfl #[.string a0, .int .i64 a4, .int .i64 a6, .slice Ao17 t316.length co17, .bool true] rfl (by (try simp only [List.map_toArray, List.map_cons, List.map_nil]); first | done | rfl | (simp only [List.length_drop, List.length_take]; rfl)) ?_; (with_reducible refine (airchecklaw02_sides.calls kj12 a0 a4 a6 _ _ t316 true t324 t325 _ ?side1 ?side2 ?side3 A24.out).mono ?_); (case side1 => repeat (first | exact (Kd.R_reads' HO_1.out).2.2 | (with_reducible refine Kd.C_alloc ?_ _) | (with_reducible refine Kd.C_drewN ?_ _) | (with_reducible refine Kd.C_drew ?_))); (case side2 => exact (Kd.R_reads' HO_1.out).2.1); (case side3 => first | exact hG | exact GL.below hG (by repeat (first | (with_reducible first | exact HB.out | apply below_alloc | apply pw_below_drewN | apply below_drew1) | exact HB.out))); rintro e w33 ⟨v326, rfl, ho0, hb⟩; refine ⟨_, rfl, ?_⟩; have n0_ := Aside0.mk (Kd.R_elder' (by (with_reducible repeat (first | apply Kd.R_alloc | apply Kd.R_drewN | apply Kd.R_drew)); exact HO_1.out) (Kd.R_base ho0) hb); have n1_ := Aside0.mk (Kd.R_elder' (by (with_reducible repeat (first | apply Kd.R_alloc | apply Kd.R_drewN | apply Kd.R_drew)); exact HO_3.out) (Kd.R_base ho0) hb); have n2_ := Aside0.mk (Kd.R_lower (Kd.R_new' (Kd.R_new' ho0 (Kd.R_lt (by (with_reducible repeat (first | apply Kd.R_alloc | apply Kd.R_drewN | apply Kd.R_drew)); exact HO_1.out))) (Kd.R_lt (by (with_reducible repeat (first | apply Kd.R_alloc | apply Kd.R_drewN | apply Kd.R_drew)); exact HO_3.out))) (below_size (by repeat (first | (with_reducible first | exact HB.out | apply below_alloc | apply pw_below_drewN | apply below_drew1) | exact HB.out)))); have n3_ := Aside0.mk (below_step (by repeat (first | (with_reducible first | exact HB.out | apply below_alloc | apply pw_below_drewN | apply below_drew1) | exact HB.out)) hb); clear HO_1; clear HO_3; clear HB; have HO_1 := n0_; have HO_3 := n1_; have HO327 := n2_; have HB := n3_; clear n0_ n1_ n2_ n3_; (try clear hb); (try clear hb2); (try clear hk); (try clear hi); (try clear ho0)) | ((with_reducible refine gate_callee (f := 28) rfl ?_); refine goesL_ (some 64) rfl rfl Tryd.func28 (by kernel_rfl) rfl #[.string a2, .int .i64 a4, .int .i64 a6, .slice Ao19 t319.length co19, .bool true] rfl (by (try simp only [List.map_toArray, List.map_cons, List.map_nil]); first | done | rfl | (simp only [List.length_drop, List.length_take]; rfl)) ?_; (with_reducible refine (airchecklaw02_sides.calls kj12 a2 a4 a6 _ _ t319 true t328 t329 _ ?side1 ?side2 ?side3 A25.out).mono ?_); (case side1 => repeat (first | exact (Kd.R_reads' HO_3.out).2.2 | (with_reducible refine Kd.C_alloc ?_ _) | (with_reducible refine Kd.C_drewN ?_ _) | (with_reducible refine Kd.C_drew ?_))); (case side2 => exact (Kd.R_reads' HO_3.out).2.1); (case side3 => first | exact hG | exact GL.below hG (by repeat (first | (with_reducible first | exact HB.out | apply below_alloc | apply pw_below_drewN | apply below_drew1) | exact HB.out))); rintro e w34 ⟨v330, rfl, ho0, hb⟩; refine ⟨_, rfl, ?_⟩; have n0_ := Aside0.mk (Kd.R_elder' (by (with_reducible repeat (first | apply Kd.R_alloc | apply Kd.R_drewN | apply Kd.R_drew)); exact HO_1.out) (Kd.R_base ho0) hb); have n1_ := Aside0.mk (Kd.R_elder' (by (with_reducible repeat (first | apply Kd.R_alloc | apply Kd.R_drewN | apply Kd.R_drew)); exact HO_3.out) (Kd.R_base ho0) hb); have n2_ := Aside0.mk (Kd.R_elder' (by (with_reducible repeat (first | apply Kd.R_alloc | apply Kd.R_drewN | apply Kd.R_drew)); exact HO327.out) (Kd.R_base ho0) hb); have n3_ := Aside0.mk (Kd.R_lower (Kd.R_new' (Kd.R_new' (Kd.R_new' ho0 (Kd.R_lt (by (with_reducible repeat (first | apply Kd.R_alloc | apply Kd.R_drewN | apply Kd.R_drew)); exact HO_1.out))) (Kd.R_lt (by (with_reducible repeat (first | apply Kd.R_alloc | apply Kd.R_drewN | apply Kd.R_drew)); exact HO_3.out))) (Kd.R_lt (by (with_reducible repeat (first | apply Kd.R_alloc | apply Kd.R_drewN | apply Kd.R_drew)); exact HO327.out))) (below_size (by repeat (first | (with_reducible first | exact HB.out | apply below_alloc | apply pw_below_drewN | apply below_drew1) | exact HB.out)))); have n4_ := Aside0.mk (below_step (by repeat (first | (with_reducible first | exact HB.out | apply below_alloc | apply pw_below_drewN | apply below_drew1) | exact HB.out)) hb); clear HO_1; clear HO_3; clear HO327; clear HB; have HO_1 := n0_; have HO_3 := n1_; have HO327 := n2_; have HO331 := n3_; have HB := n4_; clear n0_ n1_ n2_ n3_ n4_; (try clear hb); (try clear hb2); (try clear hk); (try clear hi); (try clear ho0)))
     go_ret
     exact ⟨by first | rfl | (simp [errW_none, errW_some] <;> rfl) | (simp [*, errW_none, errW_some] <;> rfl), by repeat (first | (with_reducible first | exact HB.out | apply below_alloc | apply pw_below_drewN | apply below_drew1) | exact HB.out)⟩
end Go.Proofs.YtlmlimihgohchaaDoor.PD
end
section
/-
  Whoever proves two different beginnings of the same length has found two different strings with the same digest.
-/
set_option linter.unusedVariables false
set_option linter.unusedSimpArgs false
namespace Go.Proofs.YtlmlimihgohchaaDoor.Pure
open Go.RowKit Go.Proofs.YtlmlimihgohchaaDoorW.PrintWords Go.Proofs.YtlmlimihgohchaaDoorW.PrintLast Go.Proofs.YtlmlimihgohchaaDoorW.PrintMore Go.Proofs.YtlmlimihgohchaaDoor.Ext Go.Proofs.YtlmlimihgohchaaDoor.PD Go.Proofs.YtlmlimihgohchaaDoor.DigSpec
theorem DigestExtensionBinding (a0 : ByteArray) (l1 : List ByteArray) (a2 : ByteArray) (l3 : List ByteArray) (a4 : Int) (a5 : ByteArray) (a6 : Int)
    (w0 : a0.size ≤ 140737488351232) (w1 : ∀ n ∈ l1, n.size ≤ maxLen) (w2 : a2.size ≤ 140737488351232) (w3 : ∀ n ∈ l3, n.size ≤ maxLen) (w4 : (Lit.int .i64 a4).wf = true) (w5 : a5.size ≤ 140737488351232) (w6 : (Lit.int .i64 a6).wf = true) :
    ∃ k, airchecklaw02_DigestExtensionBinding.f k a0 l1 a2 l3 a4 a5 a6 = some true := by
  have r4 := wf64 w4
  have r6 := wf64 w6
  refine ⟨2999 + 1, ?_⟩
  obtain ⟨P, hP, lP, sP, _⟩ := few_ok (2999 + 1) l1 70 (by omega) (by omega) 70 rfl
  obtain ⟨Q, hQ, lQ, sQ, _⟩ := few_ok (2999 + 1) l3 70 (by omega) (by omega) 70 rfl
  unfold airchecklaw02_DigestExtensionBinding.f
  have fP : fits P := fits_of (by omega) (fun x hx => Nat.le_trans (sP x hx) (by omega))
  have fQ : fits Q := fits_of (by omega) (fun x hx => Nat.le_trans (sQ x hx) (by omega))
  rw [sane_is _ (by omega), Option.bind_some, hP, Option.bind_some, hQ, Option.bind_some, ext_ok a0 a4 a5 a6 P fP (by omega) (by omega) r4 r6, Option.bind_some, ext_ok a2 a4 a5 a6 Q fQ (by omega) (by omega) r4 r6, Option.bind_some]
  by_cases h1 : extB a0 a4 a5 a6 P = true
  · rw [if_pos h1]
    by_cases h2 : extB a2 a4 a5 a6 Q = true
    · rw [if_pos h2, toList_beq, airchecklaw02_DigestExtensionBinding.j0]
      by_cases hst : a0 = a2
      · rw [decide_eq_true hst, if_pos rfl]
      · rw [decide_eq_false hst, if_neg (by decide)]
        obtain ⟨⟨hm0, hmn⟩, d1, o1, _, v1⟩ := extB_true.1 h1
        obtain ⟨_, d2, o2, _, v2⟩ := extB_true.1 h2
        obtain ⟨m, rfl⟩ := Int.eq_ofNat_of_zero_le hm0
        obtain ⟨n, rfl⟩ := Int.eq_ofNat_of_zero_le (show 0 ≤ a6 by omega)
        by_cases hz : ((m : Nat) : Int) = 0
        · rw [if_pos hz] at v1 v2
          exact absurd (v1.2.trans v2.2.symm) hst
        · rw [if_neg hz] at v1 v2
          rw [Int.toNat_natCast, Int.toNat_natCast] at v1 v2
          have d1' : ∀ x ∈ P.reverse, x.size = 32 := fun x hx => d1 x (List.mem_reverse.1 hx)
          have d2' : ∀ x ∈ Q.reverse, x.size = 32 := fun x hx => d2 x (List.mem_reverse.1 hx)
          have e1 := sides_is P.reverse m n 2999 a0 true (by omega) (by omega) (by omega) o1 d1' (by simp; omega) (by simp; omega)
          have e2 := sides_is Q.reverse m n 2999 a2 true (by omega) (by omega) (by omega) o2 d2' (by simp; omega) (by simp; omega)
          rw [List.reverse_reverse] at e1 e2
          obtain ⟨z1, z2, _⟩ := sides_sizes P.reverse m n a0 true o1 d1'
          obtain ⟨z3, z4, _⟩ := sides_sizes Q.reverse m n a2 true o2 d2'
          rw [List.length_reverse] at z2 z4
          have hc := Tree.ext_binding Ext.hash preN (fun x => x.size = 32) hash_size (fun a b c d h1 _ h3 _ h => preN_inj h1 h3 h) (o1 := a0) (o2 := a2) o1 o2 (m := m) (n := n) (by omega) (by omega) (whole := true) d1' d2' v1 v2 hst
          rw [e1, Option.bind_some, e2, Option.bind_some, if_pos rfl, collide_is (by omega) (fun x hx => Nat.le_trans (z1 x hx) (by omega)) (fun x hx => Nat.le_trans (z3 x hx) (by omega)) hc 2999 (by omega)]
          rfl
    · rw [if_neg h2, airchecklaw02_DigestExtensionBinding.j0, if_pos rfl]
  · rw [if_neg h1, airchecklaw02_DigestExtensionBinding.j0, if_pos rfl]
end Go.Proofs.YtlmlimihgohchaaDoor.Pure
end
section
/-
  The law DigestExtensionBinding answers true for every input: its row and its tied card. Conditions: the row's own (the listed table reads as the program's start lays it; the card ties that to the program's text).
-/
namespace Go.Proofs.YtlmlimihgohchaaDoor.digestExtensionBinding
open Go.ChangeShapes Go.WideShapes Go.ChangeAt Go.RowKit
open Go.ChangeMaps (open_string shut_string)
set_option linter.unusedVariables false
theorem own : ownKnob Tryd.prog.godebug = none := by kernel_rfl
theorem laidOut : laidOutB Tryd.prog = true := by kernel_rfl
/-- The program's start meets the condition. -/
theorem door_met (os : Os) (args : Array Value) : laidMetH Tryd.prog [("aircheck/digest.round", Rows.laid_aircheck_digest_round)] ((World.doorLaid Tryd.prog 400 os).forCall (fun _ _ => 0) ⟨#[], args, []⟩).memory :=
  laidMetH_of_parts3 (fuel := 8) (laidMet_of_run' 8 (by kernel_rfl) (by kernel_rfl)) (by kernel_rfl) (by kernel_rfl)
set_option maxRecDepth 100000 in
set_option maxHeartbeats 1000000 in
theorem lifted (os : Os) (started : os.Started) (H : Type) (enc : TypeId × Value → H) :
    ReturnsInHanded {} Tryd.checked os 8 .any (fun w args => (Rows.digestExtensionBindingSpec.pre enc Tryd.prog Tryd.f8 [] false w args ∧ laidMetH Tryd.prog [("aircheck/digest.round", Rows.laid_aircheck_digest_round)] w) ∧ sizedMet enc Tryd.prog Tryd.f8 (OpenSpec.ofChange Rows.digestExtensionBindingSpec) false w args)
      (Rows.digestExtensionBindingSpec.post enc Tryd.prog Tryd.f8 false true false false) := by
  refine returnsInHanded_of_change_and (C := Tryd.checked) (X := fun w _ => laidMetH Tryd.prog [("aircheck/digest.round", Rows.laid_aircheck_digest_round)] w) (fun _ _ _ hh h => h.of_heap hh) own started (by kernel_rfl) Tryd.func8
    (ChangeSpec.witness_shaped (enc := enc) (C := Tryd.checked) (os := os) (X := fun w _ => laidMetH Tryd.prog [("aircheck/digest.round", Rows.laid_aircheck_digest_round)] w) false (World.doorLaid Tryd.prog 400 os) #[.string ByteArray.empty, .slice none 0 0, .string ByteArray.empty, .slice none 0 0, .int .i64 0, .string ByteArray.empty, .int .i64 0] 8 rfl (World.shaped_of_RefB (by kernel_rfl) (by kernel_rfl)) (by kernel_rfl) (by kernel_rfl) (by kernel_rfl) (door_met os _)) ?_
  intro W base args ds gs before hval0 hW hcnd hsz0 hL _
  have hsz : (DataW.weightsEach Tryd.prog (Tryd.f8.params.toList ++ Rows.digestExtensionBindingSpec.plain.varTypes Tryd.prog) (ds ++ gs)).all (· ≤ reachBytes) = true := hsz0
  have hval : ∀ (j : Nat) t v, Tryd.f8.params[j]? = some t → args[j]? = some v → Value.okWide Tryd.prog W .any base t v := hval0
  have hW' := hW
  obtain ⟨p, q, hA0, hV, rfl, hfz, hnd⟩ := hW
  have hA : DataW.TrodAll enc Tryd.prog W 0 (fun _ => true) true Tryd.f8.params.toList args.toList ds p := hA0
  rw [Tryd.params8] at hA hval hsz
  obtain ⟨v0, vs0, d0, ds0, p0, q0, hargs, rfl, rfl, h0, r0⟩ := trodAll_cons hA
  obtain ⟨v1, vs1, d1, ds1, p1, q1, rfl, rfl, rfl, h1, r1⟩ := trodAll_cons r0
  obtain ⟨v2, vs2, d2, ds2, p2, q2, rfl, rfl, rfl, h2, r2⟩ := trodAll_cons r1
  obtain ⟨v3, vs3, d3, ds3, p3, q3, rfl, rfl, rfl, h3, r3⟩ := trodAll_cons r2
  obtain ⟨v4, vs4, d4, ds4, p4, q4, rfl, rfl, rfl, h4, r4⟩ := trodAll_cons r3
  obtain ⟨v5, vs5, d5, ds5, p5, q5, rfl, rfl, rfl, h5, r5⟩ := trodAll_cons r4
  obtain ⟨v6, vs6, d6, ds6, p6, q6, rfl, rfl, rfl, h6, r6⟩ := trodAll_cons r5
  obtain ⟨rfl, rfl, rfl⟩ := trodAll_nil r6
  obtain rfl : args = #[v0, v1, v2, v3, v4, v5, v6] := by cases args; simp_all
  obtain ⟨rfl, rfl⟩ := trodVars_none hV
  obtain ⟨a0, rfl, rfl, rfl, y0⟩ := open_string Tryd.underlying9 (hval 0 9 v0 rfl rfl) h0
  have w0 : a0.size ≤ 140737488351232 := by
    have z := sized_string hsz (j := 0) (t := 9) rfl rfl
    rw [Array.length_toList] at z
    exact z
  obtain ⟨a1, len1, cap1, rfl⟩ := okWide_slice Tryd.underlying22 (hval 1 22 v1 rfl rfl)
  have k1 := h1
  have lt1 : ∀ x ∈ p1, x.block < W.heap.size := by obtain ⟨m, hm⟩ := k1; exact DataW.trod_lt m _ _ _ hm
  obtain ⟨z1, w1⟩ : ∃ zs : List ByteArray, (a1 = none ∧ len1 = 0 ∧ cap1 = 0 ∧ zs = []) ∨ ∃ x, a1 = some x ∧ len1 ≤ cap1 ∧ cap1 ≤ maxLen ∧ zs.length = cap1 ∧ (∀ i, i < zs.length → W.cell? (x.add i) = some (.string (zs.getD i ByteArray.empty))) ∧ ∀ n ∈ zs, n.size ≤ maxLen := by
    obtain ⟨fuel, hf⟩ := h1
    rcases open_strings Tryd.underlying22 Tryd.underlying9 (by kernel_rfl) hf with ⟨hcs, _⟩ | ⟨x, l, c, zs, hcs, _, hl, hm, hz, _, hcell, hwz⟩
    · simp [Value.cells] at hcs
      obtain ⟨rfl, rfl, rfl⟩ := hcs
      exact ⟨[], .inl ⟨rfl, rfl, rfl, rfl⟩⟩
    · simp [Value.cells] at hcs
      obtain ⟨rfl, rfl, rfl⟩ := hcs
      exact ⟨zs, .inr ⟨_, rfl, hl, hm, by simpa using hz, hcell, hwz⟩⟩
  obtain ⟨l1, rfl, hr1, hm1, hw1, hc1⟩ := Ext.ofRow_strs w1
  obtain ⟨a2, rfl, rfl, rfl, y2⟩ := open_string Tryd.underlying9 (hval 2 9 v2 rfl rfl) h2
  have w2 : a2.size ≤ 140737488351232 := by
    have z := sized_string hsz (j := 2) (t := 9) rfl rfl
    rw [Array.length_toList] at z
    exact z
  obtain ⟨a3, len3, cap3, rfl⟩ := okWide_slice Tryd.underlying22 (hval 3 22 v3 rfl rfl)
  have k3 := h3
  have lt3 : ∀ x ∈ p3, x.block < W.heap.size := by obtain ⟨m, hm⟩ := k3; exact DataW.trod_lt m _ _ _ hm
  obtain ⟨z3, w3⟩ : ∃ zs : List ByteArray, (a3 = none ∧ len3 = 0 ∧ cap3 = 0 ∧ zs = []) ∨ ∃ x, a3 = some x ∧ len3 ≤ cap3 ∧ cap3 ≤ maxLen ∧ zs.length = cap3 ∧ (∀ i, i < zs.length → W.cell? (x.add i) = some (.string (zs.getD i ByteArray.empty))) ∧ ∀ n ∈ zs, n.size ≤ maxLen := by
    obtain ⟨fuel, hf⟩ := h3
    rcases open_strings Tryd.underlying22 Tryd.underlying9 (by kernel_rfl) hf with ⟨hcs, _⟩ | ⟨x, l, c, zs, hcs, _, hl, hm, hz, _, hcell, hwz⟩
    · simp [Value.cells] at hcs
      obtain ⟨rfl, rfl, rfl⟩ := hcs
      exact ⟨[], .inl ⟨rfl, rfl, rfl, rfl⟩⟩
    · simp [Value.cells] at hcs
      obtain ⟨rfl, rfl, rfl⟩ := hcs
      exact ⟨zs, .inr ⟨_, rfl, hl, hm, by simpa using hz, hcell, hwz⟩⟩
  obtain ⟨l3, rfl, hr3, hm3, hw3, hc3⟩ := Ext.ofRow_strs w3
  obtain ⟨a4, rfl, rfl, rfl, w4⟩ := open_int Tryd.underlying3 (hval 4 3 v4 rfl rfl) h4
  obtain ⟨a5, rfl, rfl, rfl, y5⟩ := open_string Tryd.underlying9 (hval 5 9 v5 rfl rfl) h5
  have w5 : a5.size ≤ 140737488351232 := by
    have z := sized_string hsz (j := 5) (t := 9) rfl rfl
    rw [Array.length_toList] at z
    exact z
  obtain ⟨a6, rfl, rfl, rfl, w6⟩ := open_int Tryd.underlying3 (hval 6 3 v6 rfl rfl) h6
  clear hA0 hval0 hsz0 hsz
  have hG : Ext.GL W := Ext.gl_of_laid hL
  obtain ⟨k, hk⟩ := Pure.DigestExtensionBinding a0 l1 a2 l3 a4 a5 a6 w0 hw1 w2 hw3 w4 w5 w6
  refine (PD.airchecklaw02_DigestExtensionBinding.calls k a0 _ _ l1 a2 _ _ l3 a4 a5 a6 true W hr1 hc1 hr3 hc3 hG hk).mono fun e W' ⟨he, bel⟩ => ?_
  subst he
  exact ⟨_, rfl, _, _, _, [], _, [], hW', trodAll_mk1 (shut_bool Tryd.underlying4 _), (trodAll_cons_mk (shut_string Tryd.underlying9 y0) (trodAll_cons_mk (Below.trod laidOut (by kernel_rfl) (of_decide_eq_true (by kernel_rfl)) k1 bel lt1) (trodAll_cons_mk (shut_string Tryd.underlying9 y2) (trodAll_cons_mk (Below.trod laidOut (by kernel_rfl) (of_decide_eq_true (by kernel_rfl)) k3 bel lt3) (trodAll_cons_mk (shut_int Tryd.underlying3 w4) (trodAll_cons_mk (shut_string Tryd.underlying9 y5) (trodAll_cons_mk (shut_int Tryd.underlying3 w6) trodAll_mk0))))))), rfl, bel.frame _, fun h => by cases h⟩
theorem over : Rows.digestExtensionBindingRow.holds Tryd.pinned (OpenSpec.ofChange Rows.digestExtensionBindingSpec) :=
  OpenClaim.holds_of_wide 8 Tryd.f8 rfl rfl rfl rfl rfl rfl rfl ⟨rfl, rfl, rfl, rfl, rfl⟩ rfl rfl rfl rfl rfl (by kernel_rfl) Tryd.func8 (by kernel_rfl)
    (of_decide_eq_true (by kernel_rfl)) (by unfold Func.isWrapper; first | (rw [if_pos (by decide +kernel)]; kernel_rfl) | (rw [if_neg (by decide +kernel)]; exact ⟨rfl, rfl⟩))
    (fun os started H enc _ => lifted os started H enc)
theorem card_holds : Claim7.holds Tryd.pinned (.plain (OpenSpec.ofChange Rows.digestExtensionBindingSpec)) Rows.digestExtensionBindingCard :=
  Claim7.holds_tied_plain_at .later [] [.data] true (true, "ce2ba14b2c745cbf1c9c1cd819afa2c5f5f240e749974a17a068ca61a237d3cb") false
    over (fun _ h => by cases h) (by kernel_rfl) (fun _ h => by cases h) digestExtensionBinding_row_tie rfl ⟨rfl, rfl⟩ (by kernel_rfl) rfl
    (fun f fn hf hfn => by
      obtain rfl : f = 8 := Option.some.inj ((show Tryd.prog.funcNamed "aircheck/airchecklaw02.DigestExtensionBinding" = some 8 by kernel_rfl).symm.trans hf) |>.symm
      obtain rfl : fn = Tryd.f8 := (Option.some.inj (Tryd.func8.symm.trans hfn)).symm
      exact ⟨by kernel_rfl, fun j t ht => by
        rw [Tryd.params8] at ht
        have hm : t ∈ [9, 22, 9, 22, 3, 9, 3] := by simpa using Array.mem_of_getElem? ht
        have hall : ([9, 22, 9, 22, 3, 9, 3].all fun u => !Tryd.prog.wantsStandIn u) = true := by kernel_rfl
        exact (show Tryd.prog.wantsStandIn t = false by simpa using List.all_eq_true.1 hall t hm)⟩)
    (by kernel_rfl)
end Go.Proofs.YtlmlimihgohchaaDoor.digestExtensionBinding
namespace Go.Proofs.YtlmlimihgohchaaDoor
theorem digestExtensionBinding_holds : Rows.DigestExtensionBindingCardSaid := digestExtensionBinding.card_holds
#print axioms digestExtensionBinding_holds
end Go.Proofs.YtlmlimihgohchaaDoor
end
