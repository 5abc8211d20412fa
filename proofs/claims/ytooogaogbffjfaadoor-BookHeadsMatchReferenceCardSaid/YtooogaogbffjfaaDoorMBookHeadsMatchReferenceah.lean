import Derived.Test.YtooogaogbffjfaaDoorMBookHeadsMatchReferenceab
import Derived.Test.YtooogaogbffjfaaDoorProg
import Derived.Below
import Derived.Deep.Draws
import Derived.Deep.AppendLies
import Derived.Maps.AppendAt
import Derived.OwnWalk
import Derived.Laws.BytesArg
import Derived.Laws.MakeOwn
import Derived.Laws.OwnMore
import Derived.Deep.OwnRows
import Derived.Tactics
import Derived.Lib.ConvBytes
import Derived.Laws.Slices
import Derived.WalkKit
import Derived.KernelRfl
import Derived.RowKit3
import Derived.Deep.LoopGhost
import Derived.Deep.QuietTactic
import Derived.BigQuiet
import Derived.WideLaws
import Derived.Deep.DeepCutAuto
import Derived.Deep.CutBlock
import Derived.Deep.RegionHeld3
import Derived.Laws.Rows
import Derived.Lib.AppendStr
import Derived.ArgAppend
import Derived.Laws.IdiomCopy
import Derived.OrdersHeld
import Derived.Laws.BitsLemmas
import Derived.RowKit
import Derived.Test.YtooogaogbffjfaaDoorMBookHeadsMatchReferenceac
import Derived.Test.YtooogaogbffjfaaDoorMBookHeadsMatchReferenceaa
import Derived.Lib.Hide
import Derived.StillTailTactics
/-
  Texts of this claim, one behind the other: what they prove stands above each.
-/
section
namespace Go.Proofs.YtooogaogbffjfaaDoorW.PrintLast
set_option maxRecDepth 100000
open Go.Proofs.YtooogaogbffjfaaDoorW.PrintWords
variable {P : Program} {md : Region.Mode} {ops : Array Oper} {Q : Exit → Act → World → Prop} {S : World → Prop} {ds : List Nat} {oi : Oper} {v : Value} {fuel : Nat} {l : Array Bool} {a : Act} {w : World} {T : Bool × List (List Nat × List Nat)} {B : List Nat}
def bb (n m : Nat) : Array Bool := ((List.range n).map fun i => m.testBit i).toArray
theorem z1 {α : Type} {l : List α} {i : Nat} {a : α} : l.toArray.setIfInBounds i a = (l.set i a).toArray := List.setIfInBounds_toArray ..
theorem z2 {α : Type} {x : α} {xs : List α} {a : α} : (x :: xs).set 0 a = a :: xs := rfl
theorem z3 {α : Type} {x : α} {xs : List α} {n : Nat} {a : α} : (x :: xs).set (n + 1) a = x :: xs.set n a := rfl
theorem pj_ (i : Nat) (N : Option Tmp) (l' : Array Bool) (hi : ops[i]? = some oi) (hN : oi.dst = N) (hT : Aside0 (rtab md ops = T)) (hc : anyT T l.toList l'.toList i = true)
    (hQ : ∀ c a w, Q (.panic c) (a.put oi.dst v) w → Q (.panic c) a w) (hw : Region.wanted oi (yielded ops a.tmps) = true) (hy : ∀ w, (execOp a.eval oi).run P w = .ok (.value v) w) {a' : Act} (ha : a.put N v = a')
    (h : wpAnyLast P md ops Q S ds fuel l' a' w) : wpAnyLast P md ops Q S ds (fuel + 1) l a w :=
  pure_ _ hi hN (any_of hT.out hc) hQ (Or.inl ⟨hw, hy⟩) ha h
theorem tj_ (i : Nat) (N : Option Tmp) (l' : Array Bool) (hi : ops[i]? = some oi) (hN : oi.dst = N) (hT : Aside0 (rtab md ops = T)) (hB : Aside0 (waitsOk T.2 B = true)) (hc : takeW T B ds l.toList l'.toList i = true)
    (hQ : ∀ c a w, Q (.panic c) (a.put oi.dst v) w → Q (.panic c) a w) (hw : Region.wanted oi (yielded ops a.tmps) = true) (hS : S w) (hy : ∀ w, S w → (execOp a.eval oi).run P w = .ok (.value v) w) {a' : Act} (ha : a.put N v = a')
    (h : wpAnyLast P md ops Q S ds fuel l' a' w) : wpAnyLast P md ops Q S ds (fuel + 1) l a w :=
  take_ _ hi hN (take_ofW hT.out hB.out hc) hQ (Or.inl ⟨hw, hy⟩) hS ha h
end Go.Proofs.YtooogaogbffjfaaDoorW.PrintLast
end
section
namespace Go.Proofs.YtooogaogbffjfaaDoor.PK
open Go.Proofs.YtooogaogbffjfaaDoor.Ext
open Go.RowKit Go.Proofs.YtooogaogbffjfaaDoorW.PrintWords Go.Proofs.YtooogaogbffjfaaDoorW.PrintLast Go.Proofs.YtooogaogbffjfaaDoorW.PrintMore
attribute [local go_sem] max2_int min2_int max_two min_two max_three min_three max_four min_four   -- for this text's walks alone
set_option linter.unusedVariables false
set_option linter.unusedSimpArgs false
def errW : Option Int → Value
 | none => .nilIface
 | some c => .iface 0 (.int .i64 c)
theorem errW_none : errW none = .nilIface := rfl
theorem errW_some (c : Int) : errW (some c) = .iface 0 (.int .i64 c) := rfl
end Go.Proofs.YtooogaogbffjfaaDoor.PK
end
section
namespace Go.Proofs.YtooogaogbffjfaaDoor.PK
open Go.Proofs.YtooogaogbffjfaaDoor.Ext
open Go.RowKit Go.Proofs.YtooogaogbffjfaaDoorW.PrintWords Go.Proofs.YtooogaogbffjfaaDoorW.PrintLast Go.Proofs.YtooogaogbffjfaaDoorW.PrintMore
attribute [local go_sem] max2_int min2_int max_two min_two max_three min_three max_four min_four   -- for this text's walks alone
set_option linter.unusedVariables false
set_option linter.unusedSimpArgs false
def book_isIn.f (a0 : Int) (a1 : Int) (a2 : Int) : Option (Bool) := if a1 ≤ a0 then (some (decide (a0 ≤ a2))) else (some false)
set_option maxHeartbeats 8000000 in
set_option maxRecDepth 100000 in
theorem book_isIn.calls (a0 : Int) (a1 : Int) (a2 : Int) (r : Bool) (w : World) (h : book_isIn.f a0 a1 a2 = some r) :
  Calls Tryd.prog 41 #[.int .i64 a0, .int .i64 a1, .int .i64 a2] w fun e w' => e = .returned (.bool r) ∧ Drawn0 w w' := by
 have H : (if a1 ≤ a0 then (some (decide (a0 ≤ a2))) else (some false)) = some r := h
 clear h
 by_cases c4 : a1 ≤ a0
 ·rw [if_pos c4] at H
  have c4b0 : decide (a1 ≤ a0) = true := decide_eq_true c4
  clear c4
  obtain rfl := Option.some.inj H
  go_enter Tryd.func41, Tryd.ntmps41
  go_wp2
  go_ret
  exact ⟨by first | rfl | (simp; done) | (simp [*]; done), by repeat (first | exact Drawn0.refl _ | apply Drawn0.step)⟩
 ·rw [if_neg c4] at H
  have c4b0 : decide (a1 ≤ a0) = false := decide_eq_false c4
  clear c4
  obtain rfl := Option.some.inj H
  go_enter Tryd.func41, Tryd.ntmps41
  go_wp2
  go_ret
  exact ⟨by first | rfl | (simp; done) | (simp [*]; done), by repeat (first | exact Drawn0.refl _ | apply Drawn0.step)⟩
end Go.Proofs.YtooogaogbffjfaaDoor.PK
end
section
set_option linter.unusedVariables false
set_option linter.unusedSimpArgs false
namespace Go.Proofs.YtooogaogbffjfaaDoor.Bk
set_option maxRecDepth 100000
open Go.RowKit Go.Proofs.YtooogaogbffjfaaDoorW.PrintWords Go.Proofs.YtooogaogbffjfaaDoorW.PrintLast Go.Proofs.YtooogaogbffjfaaDoorW.PrintMore Go.Proofs.YtooogaogbffjfaaDoor.Ext
def formedB (n : Int) (p : S27) : Bool := decide ((0 ≤ p.f1 ∧ p.f1 ≤ 359) ∧ (0 ≤ p.f2 ∧ p.f2 ≤ wrap64 (n - 1)) ∧ (0 ≤ p.f3 ∧ p.f3 ≤ wrap64 (n - 1)) ∧ p.f2 ≠ p.f3 ∧ (1 ≤ p.f4 ∧ p.f4 ≤ 1000000000000) ∧ (0 ≤ p.f5 ∧ p.f5 ≤ 999) ∧ (((p.f0 = 1 ∨ p.f0 = 2) ∧ p.f6 = -1) ∨ (p.f0 = 3 ∧ 0 ≤ p.f6 ∧ p.f6 ≤ 199)))
def tailB (p : S27) : Bool := decide (((p.f0 = 1 ∨ p.f0 = 2) ∧ p.f6 = -1) ∨ (p.f0 = 3 ∧ 0 ≤ p.f6 ∧ p.f6 ≤ 199))
theorem formed_parts (n : Int) (p : S27) : formedB n p = (decide (0 ≤ p.f1 ∧ p.f1 ≤ 359) && (decide (0 ≤ p.f2 ∧ p.f2 ≤ wrap64 (n - 1)) && (decide (0 ≤ p.f3 ∧ p.f3 ≤ wrap64 (n - 1)) && (!(p.f2 == p.f3) && (decide (1 ≤ p.f4 ∧ p.f4 ≤ 1000000000000) && (decide (0 ≤ p.f5 ∧ p.f5 ≤ 999) && tailB p)))))) := by
 unfold formedB tailB
 by_cases e : p.f2 = p.f3
 ·simp [e]
 ·have e2 : (p.f2 == p.f3) = false := beq_eq_false_iff_ne.2 e
  simp [Bool.decide_and, Bool.decide_or, e, e2]
end Go.Proofs.YtooogaogbffjfaaDoor.Bk
namespace Go.Proofs.YtooogaogbffjfaaDoor.Ext
theorem c_new1 (W : World) (c : Array Value) (t : TypeId) (j : Nat) (v : Value) (h : c[j]? = some v) : (W.alloc (.cells c t)).cell? ⟨W.heap.size, j, none⟩ = some v := by rw [World.cell?_alloc_new]; exact h
end Go.Proofs.YtooogaogbffjfaaDoor.Ext
namespace Go.Proofs.YtooogaogbffjfaaDoor.Ext
open Go.RowKit Go.Proofs.YtooogaogbffjfaaDoorW.PrintWords Go.Proofs.YtooogaogbffjfaaDoorW.PrintLast Go.Proofs.YtooogaogbffjfaaDoorW.PrintMore Go.Proofs.YtooogaogbffjfaaDoor.Bk
attribute [local go_sem] Oper.semAt_some
theorem isIn_same (a b c : Int) (r : Bool) (h : decide (b ≤ a ∧ a ≤ c) = r) (w : World) : Calls Tryd.prog 41 #[.int .i64 a, .int .i64 b, .int .i64 c] w fun e w' => e = .returned (.bool r) ∧ w' = w := by
 subst h
 by_cases h1 : b ≤ a
 ·have d1 : decide (b ≤ a) = true := decide_eq_true h1
  have e : decide (b ≤ a ∧ a ≤ c) = decide (a ≤ c) := by simp [h1]
  rw [e]
  go_enter Tryd.func41, Tryd.ntmps41
  go_wp2
  go_ret
  exact ⟨rfl, rfl⟩
 ·have d1 : decide (b ≤ a) = false := decide_eq_false h1
  have e : decide (b ≤ a ∧ a ≤ c) = false := by simp [h1]
  rw [e]
  go_enter Tryd.func41, Tryd.ntmps41
  go_wp2
  go_ret
  exact ⟨rfl, rfl⟩
set_option maxRecDepth 100000 in
set_option maxHeartbeats 4000000 in
theorem bFormed_walk (n : Int) (p : S27) (w : World) : Calls Tryd.prog 63 #[.agg #[.int .i64 p.f0, .int .i64 p.f1, .int .i64 p.f2, .int .i64 p.f3, .int .i64 p.f4, .int .i64 p.f5, .int .i64 p.f6], .int .i64 n] w fun e w' => e = .returned (.bool (formedB n p)) ∧ Below w.heap.size w w' := by
 rw [formed_parts]
 obtain ⟨m, hm⟩ : ∃ m, wrap64 (n - 1) = m := ⟨_, rfl⟩
 have hw : IntKind.i64.wrap (n - 1) = m := by rw [i64_w]; exact hm
 rw [hm]
 clear hm
 generalize h0 : decide (0 ≤ p.f1 ∧ p.f1 ≤ 359) = b0
 have H0 := Lib.hid h0
 clear h0
 generalize h1 : decide (0 ≤ p.f2 ∧ p.f2 ≤ m) = b1
 have H1 := Lib.hid h1
 clear h1
 generalize h2 : decide (0 ≤ p.f3 ∧ p.f3 ≤ m) = b2
 have H2 := Lib.hid h2
 clear h2
 generalize h3 : decide (1 ≤ p.f4 ∧ p.f4 ≤ 1000000000000) = b3
 have H3 := Lib.hid h3
 clear h3
 generalize h4 : decide (0 ≤ p.f5 ∧ p.f5 ≤ 999) = b4
 have H4 := Lib.hid h4
 clear h4
 obtain ⟨b5, h5⟩ : ∃ b, decide (0 ≤ p.f6 ∧ p.f6 ≤ 199) = b := ⟨_, rfl⟩
 have H5 := Lib.hid h5
 have ht3 : p.f0 ≠ 1 → p.f0 ≠ 2 → tailB p = (p.f0 == 3 && b5) := fun e1 e2 => by
  rw [← h5]
  unfold tailB
  by_cases e3 : p.f0 = 3 <;> simp [e1, e2, e3]
 have ht1 : p.f0 = 1 ∨ p.f0 = 2 → tailB p = (p.f6 == -1) := fun e => by
  unfold tailB
  rcases e with e | e <;> simp [e] <;> rfl
 have HT3 := Lib.hid ht3
 have HT1 := Lib.hid ht1
 clear h5 ht3 ht1
 have z0 : (w.alloc (.cells #[.int .i64 p.f0, .int .i64 p.f1, .int .i64 p.f2, .int .i64 p.f3, .int .i64 p.f4, .int .i64 p.f5, .int .i64 p.f6] 27)).cell? ⟨w.heap.size, 0, none⟩ = some (.int .i64 p.f0) := c_new1 _ _ _ _ _ rfl
 have z1 : (w.alloc (.cells #[.int .i64 p.f0, .int .i64 p.f1, .int .i64 p.f2, .int .i64 p.f3, .int .i64 p.f4, .int .i64 p.f5, .int .i64 p.f6] 27)).cell? ⟨w.heap.size, 1, none⟩ = some (.int .i64 p.f1) := c_new1 _ _ _ _ _ rfl
 have z2 : (w.alloc (.cells #[.int .i64 p.f0, .int .i64 p.f1, .int .i64 p.f2, .int .i64 p.f3, .int .i64 p.f4, .int .i64 p.f5, .int .i64 p.f6] 27)).cell? ⟨w.heap.size, 2, none⟩ = some (.int .i64 p.f2) := c_new1 _ _ _ _ _ rfl
 have z3 : (w.alloc (.cells #[.int .i64 p.f0, .int .i64 p.f1, .int .i64 p.f2, .int .i64 p.f3, .int .i64 p.f4, .int .i64 p.f5, .int .i64 p.f6] 27)).cell? ⟨w.heap.size, 3, none⟩ = some (.int .i64 p.f3) := c_new1 _ _ _ _ _ rfl
 have z4 : (w.alloc (.cells #[.int .i64 p.f0, .int .i64 p.f1, .int .i64 p.f2, .int .i64 p.f3, .int .i64 p.f4, .int .i64 p.f5, .int .i64 p.f6] 27)).cell? ⟨w.heap.size, 4, none⟩ = some (.int .i64 p.f4) := c_new1 _ _ _ _ _ rfl
 have z5 : (w.alloc (.cells #[.int .i64 p.f0, .int .i64 p.f1, .int .i64 p.f2, .int .i64 p.f3, .int .i64 p.f4, .int .i64 p.f5, .int .i64 p.f6] 27)).cell? ⟨w.heap.size, 5, none⟩ = some (.int .i64 p.f5) := c_new1 _ _ _ _ _ rfl
 have z6 : (w.alloc (.cells #[.int .i64 p.f0, .int .i64 p.f1, .int .i64 p.f2, .int .i64 p.f3, .int .i64 p.f4, .int .i64 p.f5, .int .i64 p.f6] 27)).cell? ⟨w.heap.size, 6, none⟩ = some (.int .i64 p.f6) := c_new1 _ _ _ _ _ rfl
 have HB := Lib.hid (show Below w.heap.size w (w.alloc (.cells #[.int .i64 p.f0, .int .i64 p.f1, .int .i64 p.f2, .int .i64 p.f3, .int .i64 p.f4, .int .i64 p.f5, .int .i64 p.f6] 27)) from (Below.refl _ _).alloc (Nat.le_refl _) _)
 go_enter Tryd.func63, Tryd.ntmps63
 go_upto_region 1 with (fail)
 generalize w.alloc (.cells #[.int .i64 p.f0, .int .i64 p.f1, .int .i64 p.f2, .int .i64 p.f3, .int .i64 p.f4, .int .i64 p.f5, .int .i64 p.f6] 27) = w1 at *
 cases b0
 ·go_wp2_with (first | (go_at_call 41; (with_reducible refine (isIn_same _ _ _ _ (by first | exact H0.out | exact H1.out | exact H2.out | exact H3.out | exact H4.out | exact H5.out) _).mono ?_); rintro e w5 ⟨rfl, hw5⟩; obtain rfl := hw5.symm; clear hw5) | fail)
  go_ret
  exact ⟨by first | rfl | (simp; done), HB.out⟩
 ·skip
  cases b1
  ·go_wp2_with (first | (go_at_call 41; (with_reducible refine (isIn_same _ _ _ _ (by first | exact H0.out | exact H1.out | exact H2.out | exact H3.out | exact H4.out | exact H5.out) _).mono ?_); rintro e w5 ⟨rfl, hw5⟩; obtain rfl := hw5.symm; clear hw5) | fail)
   go_ret
   exact ⟨by first | rfl | (simp; done), HB.out⟩
  ·skip
   cases b2
   ·go_wp2_with (first | (go_at_call 41; (with_reducible refine (isIn_same _ _ _ _ (by first | exact H0.out | exact H1.out | exact H2.out | exact H3.out | exact H4.out | exact H5.out) _).mono ?_); rintro e w5 ⟨rfl, hw5⟩; obtain rfl := hw5.symm; clear hw5) | fail)
    go_ret
    exact ⟨by first | rfl | (simp; done), HB.out⟩
   ·skip
    cases e4 : (p.f2 == p.f3)
    ·skip
     cases b3
     ·go_wp2_with (first | (go_at_call 41; (with_reducible refine (isIn_same _ _ _ _ (by first | exact H0.out | exact H1.out | exact H2.out | exact H3.out | exact H4.out | exact H5.out) _).mono ?_); rintro e w5 ⟨rfl, hw5⟩; obtain rfl := hw5.symm; clear hw5) | fail)
      go_ret
      exact ⟨by first | rfl | (simp; done), HB.out⟩
     ·skip
      cases b4
      ·go_wp2_with (first | (go_at_call 41; (with_reducible refine (isIn_same _ _ _ _ (by first | exact H0.out | exact H1.out | exact H2.out | exact H3.out | exact H4.out | exact H5.out) _).mono ?_); rintro e w5 ⟨rfl, hw5⟩; obtain rfl := hw5.symm; clear hw5) | fail)
       go_ret
       exact ⟨by first | rfl | (simp; done), HB.out⟩
      ·skip
       by_cases k1 : p.f0 = 1
       ·have e1 : (p.f0 == 1) = true := beq_iff_eq.2 k1
        have HT := Lib.hid (HT1.out (Or.inl k1))
        clear k1
        go_wp2_with (first | (go_at_call 41; (with_reducible refine (isIn_same _ _ _ _ (by first | exact H0.out | exact H1.out | exact H2.out | exact H3.out | exact H4.out | exact H5.out) _).mono ?_); rintro e w5 ⟨rfl, hw5⟩; obtain rfl := hw5.symm; clear hw5) | fail)
        go_ret
        exact ⟨by first | rfl | (rw [HT.out, e4]; rfl) | (rw [HT.out, e4, e3]; rfl) | (simp; done), HB.out⟩
       ·have e1 : (p.f0 == 1) = false := beq_eq_false_iff_ne.2 k1
        by_cases k2 : p.f0 = 2
        ·have e2 : (p.f0 == 2) = true := beq_iff_eq.2 k2
         have HT := Lib.hid (HT1.out (Or.inr k2))
         clear k1 k2
         go_wp2_with (first | (go_at_call 41; (with_reducible refine (isIn_same _ _ _ _ (by first | exact H0.out | exact H1.out | exact H2.out | exact H3.out | exact H4.out | exact H5.out) _).mono ?_); rintro e w5 ⟨rfl, hw5⟩; obtain rfl := hw5.symm; clear hw5) | fail)
         go_ret
         exact ⟨by first | rfl | (rw [HT.out, e4]; rfl) | (rw [HT.out, e4, e3]; rfl) | (simp; done), HB.out⟩
        ·have e2 : (p.f0 == 2) = false := beq_eq_false_iff_ne.2 k2
         have HT := Lib.hid (HT3.out k1 k2)
         clear k1 k2
         cases e3 : (p.f0 == 3)
         ·go_wp2_with (first | (go_at_call 41; (with_reducible refine (isIn_same _ _ _ _ (by first | exact H0.out | exact H1.out | exact H2.out | exact H3.out | exact H4.out | exact H5.out) _).mono ?_); rintro e w5 ⟨rfl, hw5⟩; obtain rfl := hw5.symm; clear hw5) | fail)
          go_ret
          exact ⟨by first | rfl | (rw [HT.out, e4]; rfl) | (rw [HT.out, e4, e3]; rfl) | (simp; done), HB.out⟩
         ·go_wp2_with (first | (go_at_call 41; (with_reducible refine (isIn_same _ _ _ _ (by first | exact H0.out | exact H1.out | exact H2.out | exact H3.out | exact H4.out | exact H5.out) _).mono ?_); rintro e w5 ⟨rfl, hw5⟩; obtain rfl := hw5.symm; clear hw5) | fail)
          go_ret
          exact ⟨by first | rfl | (rw [HT.out, e4]; rfl) | (rw [HT.out, e4, e3]; rfl) | (simp; done), HB.out⟩
    ·go_wp2_with (first | (go_at_call 41; (with_reducible refine (isIn_same _ _ _ _ (by first | exact H0.out | exact H1.out | exact H2.out | exact H3.out | exact H4.out | exact H5.out) _).mono ?_); rintro e w5 ⟨rfl, hw5⟩; obtain rfl := hw5.symm; clear hw5) | fail)
     go_ret
     exact ⟨by first | rfl | (rw [e4]; rfl) | (simp; done), HB.out⟩
end Go.Proofs.YtooogaogbffjfaaDoor.Ext
namespace Go.Proofs.YtooogaogbffjfaaDoor.PK
open Go.RowKit Go.Proofs.YtooogaogbffjfaaDoorW.PrintWords Go.Proofs.YtooogaogbffjfaaDoorW.PrintLast Go.Proofs.YtooogaogbffjfaaDoorW.PrintMore Go.Proofs.YtooogaogbffjfaaDoor.Ext
open Go.Proofs.YtooogaogbffjfaaDoor.Bk
def book_isFormed.f (k : Nat) (a0_0 a0_1 a0_2 a0_3 a0_4 a0_5 a0_6 a1 : Int) : Option Bool := some (formedB a1 ⟨a0_0, a0_1, a0_2, a0_3, a0_4, a0_5, a0_6⟩)
theorem book_isFormed.calls (k : Nat) (a0_0 a0_1 a0_2 a0_3 a0_4 a0_5 a0_6 a1 : Int) (r : Bool) (w : World) (h : book_isFormed.f k a0_0 a0_1 a0_2 a0_3 a0_4 a0_5 a0_6 a1 = some r) :
  Calls Tryd.prog 63 #[.agg #[.int .i64 a0_0, .int .i64 a0_1, .int .i64 a0_2, .int .i64 a0_3, .int .i64 a0_4, .int .i64 a0_5, .int .i64 a0_6], .int .i64 a1] w fun e w' => e = .returned (.bool r) ∧ Below w.heap.size w w' := by
 obtain rfl := Option.some.inj h
 exact bFormed_walk a1 ⟨a0_0, a0_1, a0_2, a0_3, a0_4, a0_5, a0_6⟩ w
end Go.Proofs.YtooogaogbffjfaaDoor.PK
end
section
set_option linter.unusedVariables false
set_option linter.unusedSimpArgs false
namespace Go.Proofs.YtooogaogbffjfaaDoor.Bk
set_option maxRecDepth 100000
open Go.RowKit Go.Proofs.YtooogaogbffjfaaDoorW.PrintWords Go.Proofs.YtooogaogbffjfaaDoorW.PrintLast Go.Proofs.YtooogaogbffjfaaDoorW.PrintMore Go.Proofs.YtooogaogbffjfaaDoor.Ext
def isBackB (p q : S27) : Bool := decide (q.f0 ≠ 3 ∧ p.f2 = q.f3 ∧ p.f3 = q.f2 ∧ p.f4 = q.f4 ∧ p.f5 = q.f5)
theorem isBackB_parts (p q : S27) : isBackB p q = (!(q.f0 == 3) && ((p.f2 == q.f3) && ((p.f3 == q.f2) && ((p.f4 == q.f4) && (p.f5 == q.f5))))) := by
 unfold isBackB
 by_cases e : q.f0 = 3
 ·simp [e]
 ·have e2 : (q.f0 == 3) = false := beq_eq_false_iff_ne.2 e
  rw [e2, Bool.eq_iff_iff]
  simp [e]
end Go.Proofs.YtooogaogbffjfaaDoor.Bk
namespace Go.Proofs.YtooogaogbffjfaaDoor.Ext
open Go.RowKit Go.Proofs.YtooogaogbffjfaaDoorW.PrintWords Go.Proofs.YtooogaogbffjfaaDoorW.PrintLast Go.Proofs.YtooogaogbffjfaaDoorW.PrintMore Go.Proofs.YtooogaogbffjfaaDoor.Bk
attribute [local go_sem] Oper.semAt_some
set_option maxRecDepth 100000 in
set_option maxHeartbeats 4000000 in
theorem bBack_walk (p q : S27) (w : World) : Calls Tryd.prog 64 #[.agg #[.int .i64 p.f0, .int .i64 p.f1, .int .i64 p.f2, .int .i64 p.f3, .int .i64 p.f4, .int .i64 p.f5, .int .i64 p.f6], .agg #[.int .i64 q.f0, .int .i64 q.f1, .int .i64 q.f2, .int .i64 q.f3, .int .i64 q.f4, .int .i64 q.f5, .int .i64 q.f6]] w fun e w' => e = .returned (.bool (isBackB p q)) ∧ Below w.heap.size w w' := by
 rw [isBackB_parts]
 have hsz : (w.alloc (.cells #[.int .i64 p.f0, .int .i64 p.f1, .int .i64 p.f2, .int .i64 p.f3, .int .i64 p.f4, .int .i64 p.f5, .int .i64 p.f6] 27)).heap.size = w.heap.size + 1 := by simp
 have z2 : ((w.alloc (.cells #[.int .i64 p.f0, .int .i64 p.f1, .int .i64 p.f2, .int .i64 p.f3, .int .i64 p.f4, .int .i64 p.f5, .int .i64 p.f6] 27)).alloc (.cells #[.int .i64 q.f0, .int .i64 q.f1, .int .i64 q.f2, .int .i64 q.f3, .int .i64 q.f4, .int .i64 q.f5, .int .i64 q.f6] 27)).cell? ⟨w.heap.size, 2, none⟩ = some (.int .i64 p.f2) := by rw [Go.World.cell?_alloc_old _ _ _ (by simp)]; exact c_new1 _ _ _ _ _ rfl
 have z3 : ((w.alloc (.cells #[.int .i64 p.f0, .int .i64 p.f1, .int .i64 p.f2, .int .i64 p.f3, .int .i64 p.f4, .int .i64 p.f5, .int .i64 p.f6] 27)).alloc (.cells #[.int .i64 q.f0, .int .i64 q.f1, .int .i64 q.f2, .int .i64 q.f3, .int .i64 q.f4, .int .i64 q.f5, .int .i64 q.f6] 27)).cell? ⟨w.heap.size, 3, none⟩ = some (.int .i64 p.f3) := by rw [Go.World.cell?_alloc_old _ _ _ (by simp)]; exact c_new1 _ _ _ _ _ rfl
 have z4 : ((w.alloc (.cells #[.int .i64 p.f0, .int .i64 p.f1, .int .i64 p.f2, .int .i64 p.f3, .int .i64 p.f4, .int .i64 p.f5, .int .i64 p.f6] 27)).alloc (.cells #[.int .i64 q.f0, .int .i64 q.f1, .int .i64 q.f2, .int .i64 q.f3, .int .i64 q.f4, .int .i64 q.f5, .int .i64 q.f6] 27)).cell? ⟨w.heap.size, 4, none⟩ = some (.int .i64 p.f4) := by rw [Go.World.cell?_alloc_old _ _ _ (by simp)]; exact c_new1 _ _ _ _ _ rfl
 have z5 : ((w.alloc (.cells #[.int .i64 p.f0, .int .i64 p.f1, .int .i64 p.f2, .int .i64 p.f3, .int .i64 p.f4, .int .i64 p.f5, .int .i64 p.f6] 27)).alloc (.cells #[.int .i64 q.f0, .int .i64 q.f1, .int .i64 q.f2, .int .i64 q.f3, .int .i64 q.f4, .int .i64 q.f5, .int .i64 q.f6] 27)).cell? ⟨w.heap.size, 5, none⟩ = some (.int .i64 p.f5) := by rw [Go.World.cell?_alloc_old _ _ _ (by simp)]; exact c_new1 _ _ _ _ _ rfl
 have y0 : ((w.alloc (.cells #[.int .i64 p.f0, .int .i64 p.f1, .int .i64 p.f2, .int .i64 p.f3, .int .i64 p.f4, .int .i64 p.f5, .int .i64 p.f6] 27)).alloc (.cells #[.int .i64 q.f0, .int .i64 q.f1, .int .i64 q.f2, .int .i64 q.f3, .int .i64 q.f4, .int .i64 q.f5, .int .i64 q.f6] 27)).cell? ⟨w.heap.size + 1, 0, none⟩ = some (.int .i64 q.f0) := by rw [← hsz]; exact c_new1 _ _ _ _ _ rfl
 have y2 : ((w.alloc (.cells #[.int .i64 p.f0, .int .i64 p.f1, .int .i64 p.f2, .int .i64 p.f3, .int .i64 p.f4, .int .i64 p.f5, .int .i64 p.f6] 27)).alloc (.cells #[.int .i64 q.f0, .int .i64 q.f1, .int .i64 q.f2, .int .i64 q.f3, .int .i64 q.f4, .int .i64 q.f5, .int .i64 q.f6] 27)).cell? ⟨w.heap.size + 1, 2, none⟩ = some (.int .i64 q.f2) := by rw [← hsz]; exact c_new1 _ _ _ _ _ rfl
 have y3 : ((w.alloc (.cells #[.int .i64 p.f0, .int .i64 p.f1, .int .i64 p.f2, .int .i64 p.f3, .int .i64 p.f4, .int .i64 p.f5, .int .i64 p.f6] 27)).alloc (.cells #[.int .i64 q.f0, .int .i64 q.f1, .int .i64 q.f2, .int .i64 q.f3, .int .i64 q.f4, .int .i64 q.f5, .int .i64 q.f6] 27)).cell? ⟨w.heap.size + 1, 3, none⟩ = some (.int .i64 q.f3) := by rw [← hsz]; exact c_new1 _ _ _ _ _ rfl
 have y4 : ((w.alloc (.cells #[.int .i64 p.f0, .int .i64 p.f1, .int .i64 p.f2, .int .i64 p.f3, .int .i64 p.f4, .int .i64 p.f5, .int .i64 p.f6] 27)).alloc (.cells #[.int .i64 q.f0, .int .i64 q.f1, .int .i64 q.f2, .int .i64 q.f3, .int .i64 q.f4, .int .i64 q.f5, .int .i64 q.f6] 27)).cell? ⟨w.heap.size + 1, 4, none⟩ = some (.int .i64 q.f4) := by rw [← hsz]; exact c_new1 _ _ _ _ _ rfl
 have y5 : ((w.alloc (.cells #[.int .i64 p.f0, .int .i64 p.f1, .int .i64 p.f2, .int .i64 p.f3, .int .i64 p.f4, .int .i64 p.f5, .int .i64 p.f6] 27)).alloc (.cells #[.int .i64 q.f0, .int .i64 q.f1, .int .i64 q.f2, .int .i64 q.f3, .int .i64 q.f4, .int .i64 q.f5, .int .i64 q.f6] 27)).cell? ⟨w.heap.size + 1, 5, none⟩ = some (.int .i64 q.f5) := by rw [← hsz]; exact c_new1 _ _ _ _ _ rfl
 have HB := Lib.hid (show Below w.heap.size w ((w.alloc (.cells #[.int .i64 p.f0, .int .i64 p.f1, .int .i64 p.f2, .int .i64 p.f3, .int .i64 p.f4, .int .i64 p.f5, .int .i64 p.f6] 27)).alloc (.cells #[.int .i64 q.f0, .int .i64 q.f1, .int .i64 q.f2, .int .i64 q.f3, .int .i64 q.f4, .int .i64 q.f5, .int .i64 q.f6] 27)) from ((Below.refl _ _).alloc (Nat.le_refl _) _).alloc (by simp) _)
 clear hsz
 go_enter Tryd.func64, Tryd.ntmps64
 go_upto_region 1 with (fail)
 generalize (w.alloc (.cells #[.int .i64 p.f0, .int .i64 p.f1, .int .i64 p.f2, .int .i64 p.f3, .int .i64 p.f4, .int .i64 p.f5, .int .i64 p.f6] 27)).alloc (.cells #[.int .i64 q.f0, .int .i64 q.f1, .int .i64 q.f2, .int .i64 q.f3, .int .i64 q.f4, .int .i64 q.f5, .int .i64 q.f6] 27) = w1 at *
 by_cases e0 : q.f0 ≠ 3
 ·have E0 := Lib.hid (show (q.f0 == 3) = false from beq_eq_false_iff_ne.2 e0)
  cases e1 : (p.f2 == q.f3)
  ·skip
   go_wp2
   go_ret
   exact ⟨by first | rfl | (rw [E0.out]; rfl) | (rw [E0.out, e1]; rfl) | (rw [E0.out, e1, e2]; rfl) | (rw [E0.out, e1, e2, e3]; rfl) | (show Ending.returned (Value.bool (q.f0 != 3 && p.f5 == q.f5)) = _; unfold bne; rw [E0.out, e1, e2, e3]; rfl), HB.out⟩
  ·cases e2 : (p.f3 == q.f2)
   ·skip
    go_wp2
    go_ret
    exact ⟨by first | rfl | (rw [E0.out]; rfl) | (rw [E0.out, e1]; rfl) | (rw [E0.out, e1, e2]; rfl) | (rw [E0.out, e1, e2, e3]; rfl) | (show Ending.returned (Value.bool (q.f0 != 3 && p.f5 == q.f5)) = _; unfold bne; rw [E0.out, e1, e2, e3]; rfl), HB.out⟩
   ·cases e3 : (p.f4 == q.f4)
    ·skip
     go_wp2
     go_ret
     exact ⟨by first | rfl | (rw [E0.out]; rfl) | (rw [E0.out, e1]; rfl) | (rw [E0.out, e1, e2]; rfl) | (rw [E0.out, e1, e2, e3]; rfl) | (show Ending.returned (Value.bool (q.f0 != 3 && p.f5 == q.f5)) = _; unfold bne; rw [E0.out, e1, e2, e3]; rfl), HB.out⟩
    ·skip
     go_wp2
     go_ret
     exact ⟨by first | rfl | (rw [E0.out]; rfl) | (rw [E0.out, e1]; rfl) | (rw [E0.out, e1, e2]; rfl) | (rw [E0.out, e1, e2, e3]; rfl) | (show Ending.returned (Value.bool (q.f0 != 3 && p.f5 == q.f5)) = _; unfold bne; rw [E0.out, e1, e2, e3]; rfl), HB.out⟩
 ·have e9 : q.f0 = 3 := Decidable.not_not.1 e0
  have E0 := Lib.hid (show (q.f0 == 3) = true from beq_iff_eq.2 e9)
  clear e9
  go_wp2
  go_ret
  exact ⟨by first | rfl | (rw [E0.out]; rfl) | (rw [E0.out, e1]; rfl) | (rw [E0.out, e1, e2]; rfl) | (rw [E0.out, e1, e2, e3]; rfl) | (show Ending.returned (Value.bool (q.f0 != 3 && p.f5 == q.f5)) = _; unfold bne; rw [E0.out, e1, e2, e3]; rfl), HB.out⟩
end Go.Proofs.YtooogaogbffjfaaDoor.Ext
namespace Go.Proofs.YtooogaogbffjfaaDoor.PK
open Go.RowKit Go.Proofs.YtooogaogbffjfaaDoorW.PrintWords Go.Proofs.YtooogaogbffjfaaDoorW.PrintLast Go.Proofs.YtooogaogbffjfaaDoorW.PrintMore Go.Proofs.YtooogaogbffjfaaDoor.Ext
open Go.Proofs.YtooogaogbffjfaaDoor.Bk
def book_isBack.f (a0_0 a0_1 a0_2 a0_3 a0_4 a0_5 a0_6 a1_0 a1_1 a1_2 a1_3 a1_4 a1_5 a1_6 : Int) : Option Bool := some (isBackB ⟨a0_0, a0_1, a0_2, a0_3, a0_4, a0_5, a0_6⟩ ⟨a1_0, a1_1, a1_2, a1_3, a1_4, a1_5, a1_6⟩)
theorem book_isBack.calls (a0_0 a0_1 a0_2 a0_3 a0_4 a0_5 a0_6 a1_0 a1_1 a1_2 a1_3 a1_4 a1_5 a1_6 : Int) (r : Bool) (w : World) (h : book_isBack.f a0_0 a0_1 a0_2 a0_3 a0_4 a0_5 a0_6 a1_0 a1_1 a1_2 a1_3 a1_4 a1_5 a1_6 = some r) :
  Calls Tryd.prog 64 #[.agg #[.int .i64 a0_0, .int .i64 a0_1, .int .i64 a0_2, .int .i64 a0_3, .int .i64 a0_4, .int .i64 a0_5, .int .i64 a0_6], .agg #[.int .i64 a1_0, .int .i64 a1_1, .int .i64 a1_2, .int .i64 a1_3, .int .i64 a1_4, .int .i64 a1_5, .int .i64 a1_6]] w fun e w' => e = .returned (.bool r) ∧ Below w.heap.size w w' := by
 obtain rfl := Option.some.inj h
 exact bBack_walk ⟨a0_0, a0_1, a0_2, a0_3, a0_4, a0_5, a0_6⟩ ⟨a1_0, a1_1, a1_2, a1_3, a1_4, a1_5, a1_6⟩ w
end Go.Proofs.YtooogaogbffjfaaDoor.PK
end
section
set_option linter.unusedVariables false
set_option linter.unusedSimpArgs false
namespace Go.Proofs.YtooogaogbffjfaaDoor.Bk
set_option maxRecDepth 100000
open Go.RowKit Go.Proofs.YtooogaogbffjfaaDoorW.PrintWords Go.Proofs.YtooogaogbffjfaaDoorW.PrintLast Go.Proofs.YtooogaogbffjfaaDoorW.PrintMore Go.Proofs.YtooogaogbffjfaaDoor.Ext Go.Proofs.YtooogaogbffjfaaDoor.PK
theorem isIn_is (a b c : Int) : book_isIn.f a b c = some (decide (b ≤ a ∧ a ≤ c)) := by
  unfold book_isIn.f
  split
  · rename_i h; simp [h]
  · rename_i h; simp [h]
theorem formed_is (k : Nat) (n : Int) (p : S27) : book_isFormed.f (k + 1) p.f0 p.f1 p.f2 p.f3 p.f4 p.f5 p.f6 n = some (formedB n p) := rfl
theorem isBack_is (p q : S27) : book_isBack.f p.f0 p.f1 p.f2 p.f3 p.f4 p.f5 p.f6 q.f0 q.f1 q.f2 q.f3 q.f4 q.f5 q.f6 = some (isBackB p q) := rfl
def backs (l : List S27) : List Bool := (List.range 200).map fun i : Nat => l.any fun q => decide (q.f0 = 3 ∧ q.f6 = (i : Int))
theorem backs_len (l : List S27) : (backs l).length = 200 := by simp [backs]
theorem backs_at (l : List S27) (i : Nat) (h : i < 200) : (backs l)[i]? = some (l.any fun q => decide (q.f0 = 3 ∧ q.f6 = (i : Int))) := by
  unfold backs
  rw [List.getElem?_map, List.getElem?_range h]
  rfl
theorem backs_other (l : List S27) (p : S27) (h : p.f0 ≠ 3) : backs (l ++ [p]) = backs l := by
  unfold backs
  refine List.map_congr_left fun i _ => ?_
  simp [h]
theorem backs_set (l : List S27) (p : S27) (h : p.f0 = 3) (o : Nat) (ho : p.f6 = (o : Int)) (h2 : o < 200) : backs (l ++ [p]) = (backs l).set o true := by
  apply List.ext_getElem?
  intro i
  by_cases hi : i < 200
  · rw [backs_at _ _ hi, List.getElem?_set]
    by_cases e : o = i
    · subst e
      rw [if_pos rfl, if_pos (by rw [backs_len]; exact h2)]
      simp [h, ho]
    · rw [if_neg e, backs_at _ _ hi]
      have : ¬ p.f6 = (i : Int) := by omega
      simp [this]
  · rw [List.getElem?_eq_none (by rw [backs_len]; omega), List.getElem?_eq_none (by rw [List.length_set, backs_len]; omega)]
def dayOf (l : List S27) : Int := match l.getLast? with | none => -1 | some q => q.f1
def nextB (n : Int) (l : List S27) (p : S27) : Bool := decide (l.length < 200) && (formedB n p && (decide (l = [] ∨ dayOf l ≤ p.f1) && (decide (p.f0 ≠ 3) || (decide (p.f6 < (l.length : Int)) && (!((backs l).getD p.f6.toNat false) && isBackB p (l.getD p.f6.toNat z27))))))
end Go.Proofs.YtooogaogbffjfaaDoor.Bk
end
section
set_option linter.unusedVariables false
set_option linter.unusedSimpArgs false
namespace Go.Proofs.YtooogaogbffjfaaDoor.Ext
set_option maxRecDepth 100000
open Go.RowKit Go.Proofs.YtooogaogbffjfaaDoorW.PrintWords Go.Proofs.YtooogaogbffjfaaDoorW.PrintLast Go.Proofs.YtooogaogbffjfaaDoorW.PrintMore Go.Proofs.YtooogaogbffjfaaDoor.PK Go.Proofs.YtooogaogbffjfaaDoor.Bk
attribute [local go_sem] Oper.semAt_some
def pv (p : S27) : Value := .agg #[.int .i64 p.f0, .int .i64 p.f1, .int .i64 p.f2, .int .i64 p.f3, .int .i64 p.f4, .int .i64 p.f5, .int .i64 p.f6]
def pcells (p : S27) : List Value := [.int .i64 p.f0, .int .i64 p.f1, .int .i64 p.f2, .int .i64 p.f3, .int .i64 p.f4, .int .i64 p.f5, .int .i64 p.f6]
def ledCells (acc : Int) (v : Value) (clo : Int) (bk : List Bool) : List Value := .int .i64 acc :: v :: .int .i64 clo :: bk.map Value.bool
def Led (w : World) (B : Nat) (acc : Int) (v : Value) (clo : Int) (bk : List Bool) : Prop := Blk w B 74 (ledCells acc v clo bk)
theorem formed_walk (n : Int) (p : S27) (w : World) : Calls Tryd.prog 63 #[.agg #[.int .i64 p.f0, .int .i64 p.f1, .int .i64 p.f2, .int .i64 p.f3, .int .i64 p.f4, .int .i64 p.f5, .int .i64 p.f6], .int .i64 n] w fun e w' => e = .returned (.bool (formedB n p)) ∧ Below w.heap.size w w' :=
  book_isFormed.calls 1 _ _ _ _ _ _ _ _ _ w (formed_is 0 n p)
theorem formed_walk' (n : Int) (p : S27) (b : Bool) (h : formedB n p = b) (w : World) : Calls Tryd.prog 63 #[.agg #[.int .i64 p.f0, .int .i64 p.f1, .int .i64 p.f2, .int .i64 p.f3, .int .i64 p.f4, .int .i64 p.f5, .int .i64 p.f6], .int .i64 n] w fun e w' => e = .returned (.bool b) ∧ Below w.heap.size w w' := h ▸ formed_walk n p w
theorem back_walk (p q : S27) (w : World) : Calls Tryd.prog 64 #[.agg #[.int .i64 p.f0, .int .i64 p.f1, .int .i64 p.f2, .int .i64 p.f3, .int .i64 p.f4, .int .i64 p.f5, .int .i64 p.f6], .agg #[.int .i64 q.f0, .int .i64 q.f1, .int .i64 q.f2, .int .i64 q.f3, .int .i64 q.f4, .int .i64 q.f5, .int .i64 q.f6]] w fun e w' => e = .returned (.bool (isBackB p q)) ∧ Below w.heap.size w w' :=
  book_isBack.calls _ _ _ _ _ _ _ _ _ _ _ _ _ _ _ w (isBack_is p q)
set_option maxRecDepth 100000 in
set_option maxHeartbeats 1000000 in
theorem takes_full (B : Nat) (acc clo : Int) (A : Option Addr) (c n : Nat) (bk : List Bool) (p : S27) (w : World) (hB : Led w B acc (.slice A n c) clo bk) (hn : 200 ≤ n) :
    Calls Tryd.prog 51 #[.pointer (some ⟨B, 0, none⟩), pv p] w fun e w' => e = .returned (.bool false) ∧ Below w.heap.size w w' := by
  have c1 : w.cell? ⟨B, 1, none⟩ = some (.slice A n c) := hB.cell rfl
  have c1' : (w.alloc (.cells (pcells p).toArray 27)).cell? ⟨B, 1, none⟩ = some (.slice A n c) := c_old c1
  have hd : decide ((200 : Int) ≤ (n : Int)) = true := decide_eq_true (by omega)
  unfold pv
  unfold pcells at c1'
  go_enter Tryd.func51, Tryd.ntmps51
  go_wp2
  go_quiet (fail)
  go_wp2
  go_ret
  exact ⟨rfl, below_dN ((Below.refl _ _).alloc (Nat.le_refl _) _) _⟩
theorem keepB {w1 w2 : World} {a : Addr} {v : Value} (hb : Below w1.heap.size w1 w2) (h : w1.cell? a = some v) : w2.cell? a = some v := (hb.cell (World.block_lt_of_cell? _ _ h)).trans h
theorem box_cells (w : World) (p : S27) (j : Nat) (v : Value) (h : (pcells p)[j]? = some v) (t : TypeId) : (w.alloc (.cells (pcells p).toArray t)).cell? ⟨w.heap.size, j, none⟩ = some v := c_new _ _ _ _ _ _ (by simpa using h) rfl
set_option maxRecDepth 100000 in
set_option maxHeartbeats 1000000 in
theorem takes_odd (B : Nat) (acc clo : Int) (A : Option Addr) (c n : Nat) (bk : List Bool) (p : S27) (w : World) (hB : Led w B acc (.slice A n c) clo bk) (hn : n < 200) (hf : formedB acc p = false) :
    Calls Tryd.prog 51 #[.pointer (some ⟨B, 0, none⟩), pv p] w fun e w' => e = .returned (.bool false) ∧ Below w.heap.size w w' := by
  have c0 : w.cell? ⟨B, 0, none⟩ = some (.int .i64 acc) := hB.cell rfl
  have c1 : w.cell? ⟨B, 1, none⟩ = some (.slice A n c) := hB.cell rfl
  have e0 := box_cells w p 0 _ rfl 27
  have e1 := box_cells w p 1 _ rfl 27
  have e2 := box_cells w p 2 _ rfl 27
  have e3 := box_cells w p 3 _ rfl 27
  have e4 := box_cells w p 4 _ rfl 27
  have e5 := box_cells w p 5 _ rfl 27
  have e6 := box_cells w p 6 _ rfl 27
  have c0' := c_old (o := .cells (pcells p).toArray 27) c0
  have c1' := c_old (o := .cells (pcells p).toArray 27) c1
  have hd : decide ((200 : Int) ≤ (n : Int)) = false := decide_eq_false (by omega)
  unfold pv
  unfold pcells at c0' c1' e0 e1 e2 e3 e4 e5 e6
  clear c0 c1
  go_enter Tryd.func51, Tryd.ntmps51
  go_wp2
  generalize hw1 : w.alloc (.cells [Value.int .i64 p.f0, .int .i64 p.f1, .int .i64 p.f2, .int .i64 p.f3, .int .i64 p.f4, .int .i64 p.f5, .int .i64 p.f6].toArray 27) = w1 at *
  have hbw : Below w.heap.size w w1.drew := below_drew1 (by rw [← hw1]; exact (Below.refl _ _).alloc (Nat.le_refl _) _)
  refine start_ (n := 31) (S := fun w' => w'.cell? ⟨B, 0, none⟩ = some (.int .i64 acc) ∧ w'.cell? ⟨w.heap.size, 0, none⟩ = some (.int .i64 p.f0) ∧ w'.cell? ⟨w.heap.size, 1, none⟩ = some (.int .i64 p.f1) ∧ w'.cell? ⟨w.heap.size, 2, none⟩ = some (.int .i64 p.f2) ∧ w'.cell? ⟨w.heap.size, 3, none⟩ = some (.int .i64 p.f3) ∧ w'.cell? ⟨w.heap.size, 4, none⟩ = some (.int .i64 p.f4) ∧ w'.cell? ⟨w.heap.size, 5, none⟩ = some (.int .i64 p.f5) ∧ w'.cell? ⟨w.heap.size, 6, none⟩ = some (.int .i64 p.f6)) (ds := []) (bb 31 0) (by kernel_rfl) rfl rfl ⟨c0', e0, e1, e2, e3, e4, e5, e6⟩ (fun hHeld => ?_)
  generalize w1.drew = wd at *
  refine pure_ (i := 0) (N := (some 12)) (v := ?_) (a' := ?_) (bb 31 1) rfl rfl (by kernel_rfl) (fun _ _ _ h => h) (Or.inl ⟨by rfl, ?_⟩) ?_ ?_
  rotate_left; (intro w'; go_simp; with_reducible rfl); rotate_left; (simp only [Act.put, z1, z2, z3, i64_w, i32_w]; rfl)
  refine pure_ (i := 1) (N := (some 13)) (v := ?_) (a' := ?_) (bb 31 3) rfl rfl (by kernel_rfl) (fun _ _ _ h => h) (Or.inl ⟨by rfl, ?_⟩) ?_ ?_
  rotate_left; (intro w'; go_simp; with_reducible rfl); rotate_left; (simp only [Act.put, z1, z2, z3, i64_w, i32_w]; rfl)
  refine pure_ (i := 2) (N := (some 14)) (v := ?_) (a' := ?_) (bb 31 7) rfl rfl (by kernel_rfl) (fun _ _ _ h => h) (Or.inl ⟨by rfl, ?_⟩) ?_ ?_
  rotate_left; (intro w'; go_simp; with_reducible rfl); rotate_left; (simp only [Act.put, z1, z2, z3, i64_w, i32_w]; rfl)
  refine take_ (i := 3) (N := (some 15)) (v := ?_) (a' := ?_) (bb 31 15) rfl rfl (by kernel_rfl) (fun _ _ _ h => h) (Or.inl ⟨by rfl, ?_⟩) hHeld ?_ ?_
  rotate_left; (rintro w' ⟨s0, s1, s2, s3, s4, s5, s6, s7⟩; go_simp; with_reducible rfl); rotate_left; (simp only [Act.put, z1, z2, z3, i64_w, i32_w]; rfl)
  refine pure_ (i := 4) (N := (some 16)) (v := ?_) (a' := ?_) (bb 31 31) rfl rfl (by kernel_rfl) (fun _ _ _ h => h) (Or.inl ⟨by rfl, ?_⟩) ?_ ?_
  rotate_left; (intro w'; go_simp; with_reducible rfl); rotate_left; (simp only [Act.put, z1, z2, z3, i64_w, i32_w]; rfl)
  refine pure_ (i := 5) (N := (some 17)) (v := ?_) (a' := ?_) (bb 31 63) rfl rfl (by kernel_rfl) (fun _ _ _ h => h) (Or.inl ⟨by rfl, ?_⟩) ?_ ?_
  rotate_left; (intro w'; go_simp; with_reducible rfl); rotate_left; (simp only [Act.put, z1, z2, z3, i64_w, i32_w]; rfl)
  refine pure_ (i := 6) (N := (some 18)) (v := ?_) (a' := ?_) (bb 31 127) rfl rfl (by kernel_rfl) (fun _ _ _ h => h) (Or.inl ⟨by rfl, ?_⟩) ?_ ?_
  rotate_left; (intro w'; go_simp; with_reducible rfl); rotate_left; (simp only [Act.put, z1, z2, z3, i64_w, i32_w]; rfl)
  refine pure_ (i := 7) (N := (some 19)) (v := ?_) (a' := ?_) (bb 31 255) rfl rfl (by kernel_rfl) (fun _ _ _ h => h) (Or.inl ⟨by rfl, ?_⟩) ?_ ?_
  rotate_left; (intro w'; go_simp; with_reducible rfl); rotate_left; (simp only [Act.put, z1, z2, z3, i64_w, i32_w]; rfl)
  refine take_ (i := 8) (N := (some 20)) (v := ?_) (a' := ?_) (bb 31 511) rfl rfl (by kernel_rfl) (fun _ _ _ h => h) (Or.inl ⟨by rfl, ?_⟩) hHeld ?_ ?_
  rotate_left; (rintro w' ⟨s0, s1, s2, s3, s4, s5, s6, s7⟩; go_simp; with_reducible rfl); rotate_left; (simp only [Act.put, z1, z2, z3, i64_w, i32_w]; rfl)
  refine one_ (i := 9) (N := (some 21)) (bb 31 1023) rfl rfl (by kernel_rfl) (by decide) (fun K hK => ?_)
  refine goes_ Tryd.func63 (by kernel_rfl) rfl #[.agg #[.int .i64 p.f0, .int .i64 p.f1, .int .i64 p.f2, .int .i64 p.f3, .int .i64 p.f4, .int .i64 p.f5, .int .i64 p.f6], .int .i64 acc] (by rfl) rfl rfl (by (try simp only [List.map_toArray, List.map_cons, List.map_nil]); first | done | rfl) ?_
  refine (formed_walk' acc p false hf _).mono ?_
  rintro e w2 ⟨rfl, hb1⟩
  refine ⟨_, rfl, ?_⟩
  refine hK.out _ _ ⟨keepB hb1 hHeld.1, keepB hb1 hHeld.2.1, keepB hb1 hHeld.2.2.1, keepB hb1 hHeld.2.2.2.1, keepB hb1 hHeld.2.2.2.2.1, keepB hb1 hHeld.2.2.2.2.2.1, keepB hb1 hHeld.2.2.2.2.2.2.1, keepB hb1 hHeld.2.2.2.2.2.2.2⟩ (fun hHeld => ?_)
  clear hK K
  refine norm_ (a' := ?_) ?_ ?_
  rotate_left
  · show Act.put _ (some 21) _ = _
    simp only [Act.put, z1, z2, z3, i64_w, i32_w]
    rfl
  refine pure_ (i := 10) (N := (some 22)) (v := ?_) (a' := ?_) (bb 31 2047) rfl rfl (by kernel_rfl) (fun _ _ _ h => h) (Or.inl ⟨by rfl, ?_⟩) ?_ ?_
  rotate_left; (intro w'; go_simp; with_reducible rfl); rotate_left; (simp only [Act.put, z1, z2, z3, i64_w, i32_w]; rfl)
  refine pure_ (i := 11) (N := (some 23)) (v := ?_) (a' := ?_) (bb 31 4095) rfl rfl (by kernel_rfl) (fun _ _ _ h => h) (Or.inl ⟨by rfl, ?_⟩) ?_ ?_
  rotate_left; (intro w'; go_simp; with_reducible rfl); rotate_left; (simp only [Act.put, z1, z2, z3, i64_w, i32_w]; rfl)
  refine pure_ (i := 12) (N := (some 24)) (v := ?_) (a' := ?_) (bb 31 8191) rfl rfl (by kernel_rfl) (fun _ _ _ h => h) (Or.inl ⟨by rfl, ?_⟩) ?_ ?_
  rotate_left; (intro w'; go_simp; with_reducible rfl); rotate_left; (simp only [Act.put, z1, z2, z3, i64_w, i32_w]; rfl)
  refine pure_ (i := 13) (N := (some 25)) (v := undef) (a' := ?_) (bb 31 16383) rfl rfl (by kernel_rfl) (fun _ _ _ h => h) (Or.inr ⟨by rfl, rfl⟩) ?_ ?_
  rotate_left; (simp only [Act.put, z1, z2, z3, i64_w, i32_w]; rfl)
  refine pure_ (i := 14) (N := (some 26)) (v := undef) (a' := ?_) (bb 31 32767) rfl rfl (by kernel_rfl) (fun _ _ _ h => h) (Or.inr ⟨by rfl, rfl⟩) ?_ ?_
  rotate_left; (simp only [Act.put, z1, z2, z3, i64_w, i32_w]; rfl)
  refine pure_ (i := 15) (N := (some 27)) (v := undef) (a' := ?_) (bb 31 65535) rfl rfl (by kernel_rfl) (fun _ _ _ h => h) (Or.inr ⟨by rfl, rfl⟩) ?_ ?_
  rotate_left; (simp only [Act.put, z1, z2, z3, i64_w, i32_w]; rfl)
  refine pure_ (i := 16) (N := (some 28)) (v := undef) (a' := ?_) (bb 31 131071) rfl rfl (by kernel_rfl) (fun _ _ _ h => h) (Or.inr ⟨by rfl, rfl⟩) ?_ ?_
  rotate_left; (simp only [Act.put, z1, z2, z3, i64_w, i32_w]; rfl)
  refine pure_ (i := 17) (N := (some 29)) (v := undef) (a' := ?_) (bb 31 262143) rfl rfl (by kernel_rfl) (fun _ _ _ h => h) (Or.inr ⟨by rfl, rfl⟩) ?_ ?_
  rotate_left; (simp only [Act.put, z1, z2, z3, i64_w, i32_w]; rfl)
  refine pure_ (i := 18) (N := (some 30)) (v := undef) (a' := ?_) (bb 31 524287) rfl rfl (by kernel_rfl) (fun _ _ _ h => h) (Or.inr ⟨by rfl, rfl⟩) ?_ ?_
  rotate_left; (simp only [Act.put, z1, z2, z3, i64_w, i32_w]; rfl)
  refine pure_ (i := 19) (N := (some 31)) (v := undef) (a' := ?_) (bb 31 1048575) rfl rfl (by kernel_rfl) (fun _ _ _ h => h) (Or.inr ⟨by rfl, rfl⟩) ?_ ?_
  rotate_left; (simp only [Act.put, z1, z2, z3, i64_w, i32_w]; rfl)
  refine pure_ (i := 20) (N := (some 32)) (v := undef) (a' := ?_) (bb 31 2097151) rfl rfl (by kernel_rfl) (fun _ _ _ h => h) (Or.inr ⟨by rfl, rfl⟩) ?_ ?_
  rotate_left; (simp only [Act.put, z1, z2, z3, i64_w, i32_w]; rfl)
  refine pure_ (i := 21) (N := (some 33)) (v := undef) (a' := ?_) (bb 31 4194303) rfl rfl (by kernel_rfl) (fun _ _ _ h => h) (Or.inr ⟨by rfl, rfl⟩) ?_ ?_
  rotate_left; (simp only [Act.put, z1, z2, z3, i64_w, i32_w]; rfl)
  refine pure_ (i := 22) (N := (some 34)) (v := undef) (a' := ?_) (bb 31 8388607) rfl rfl (by kernel_rfl) (fun _ _ _ h => h) (Or.inr ⟨by rfl, rfl⟩) ?_ ?_
  rotate_left; (simp only [Act.put, z1, z2, z3, i64_w, i32_w]; rfl)
  refine pure_ (i := 23) (N := (some 35)) (v := undef) (a' := ?_) (bb 31 16777215) rfl rfl (by kernel_rfl) (fun _ _ _ h => h) (Or.inr ⟨by rfl, rfl⟩) ?_ ?_
  rotate_left; (simp only [Act.put, z1, z2, z3, i64_w, i32_w]; rfl)
  refine pure_ (i := 24) (N := (some 36)) (v := undef) (a' := ?_) (bb 31 33554431) rfl rfl (by kernel_rfl) (fun _ _ _ h => h) (Or.inr ⟨by rfl, rfl⟩) ?_ ?_
  rotate_left; (simp only [Act.put, z1, z2, z3, i64_w, i32_w]; rfl)
  refine pure_ (i := 25) (N := (some 37)) (v := undef) (a' := ?_) (bb 31 67108863) rfl rfl (by kernel_rfl) (fun _ _ _ h => h) (Or.inr ⟨by rfl, rfl⟩) ?_ ?_
  rotate_left; (simp only [Act.put, z1, z2, z3, i64_w, i32_w]; rfl)
  refine pure_ (i := 26) (N := (some 38)) (v := undef) (a' := ?_) (bb 31 134217727) rfl rfl (by kernel_rfl) (fun _ _ _ h => h) (Or.inr ⟨by rfl, rfl⟩) ?_ ?_
  rotate_left; (simp only [Act.put, z1, z2, z3, i64_w, i32_w]; rfl)
  refine pure_ (i := 27) (N := (some 39)) (v := undef) (a' := ?_) (bb 31 268435455) rfl rfl (by kernel_rfl) (fun _ _ _ h => h) (Or.inr ⟨by rfl, rfl⟩) ?_ ?_
  rotate_left; (simp only [Act.put, z1, z2, z3, i64_w, i32_w]; rfl)
  refine pure_ (i := 28) (N := (some 40)) (v := undef) (a' := ?_) (bb 31 536870911) rfl rfl (by kernel_rfl) (fun _ _ _ h => h) (Or.inr ⟨by rfl, rfl⟩) ?_ ?_
  rotate_left; (simp only [Act.put, z1, z2, z3, i64_w, i32_w]; rfl)
  refine pure_ (i := 29) (N := (some 41)) (v := undef) (a' := ?_) (bb 31 1073741823) rfl rfl (by kernel_rfl) (fun _ _ _ h => h) (Or.inr ⟨by rfl, rfl⟩) ?_ ?_
  rotate_left; (simp only [Act.put, z1, z2, z3, i64_w, i32_w]; rfl)
  refine pure_ (i := 30) (N := (some 42)) (v := ?_) (a' := ?_) (bb 31 2147483647) rfl rfl (by kernel_rfl) (fun _ _ _ h => h) (Or.inl ⟨by rfl, ?_⟩) ?_ ?_
  rotate_left; (intro w'; go_simp; with_reducible rfl); rotate_left; (simp only [Act.put, z1, z2, z3, i64_w, i32_w]; rfl)
  refine done_ (by kernel_rfl) ?_
  go_wp2
  go_ret
  exact ⟨rfl, Below.trans hbw (hb1.mono hbw.size)⟩
end Go.Proofs.YtooogaogbffjfaaDoor.Ext
end
