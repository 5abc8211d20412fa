import Derived.Test.YtooogaogbffjfaaMBookSumsal
import Derived.Test.YtooogaogbffjfaaMBookSumsas
import Derived.Outline
import Derived.Test.YtooogaogbffjfaaProg
import Derived.Below
import Derived.Deep.Draws
import Derived.Deep.AppendLies
import Derived.Maps.AppendAt
import Derived.OwnWalk
import Derived.Laws.BytesArg
import Derived.Laws.MakeOwn
import Derived.Laws.OwnMore
import Derived.Deep.OwnRows
import Derived.Tactics
import Derived.Lib.ConvBytes
import Derived.Laws.Slices
import Derived.WalkKit
import Derived.KernelRfl
import Derived.RowKit3
import Derived.Deep.LoopGhost
import Derived.Deep.QuietTactic
import Derived.BigQuiet
import Derived.WideLaws
import Derived.Deep.DeepCutAuto
import Derived.Deep.CutBlock
import Derived.Deep.RegionHeld3
import Derived.Laws.Rows
import Derived.Lib.AppendStr
import Derived.ArgAppend
import Derived.Laws.IdiomCopy
import Derived.OrdersHeld
import Derived.Laws.BitsLemmas
import Derived.RowKit
import Derived.Test.YtooogaogbffjfaaMBookSumsat
import Derived.Test.YtooogaogbffjfaaMBookSumsaa
import Derived.Test.YtooogaogbffjfaaMBookSumsab
import Derived.Test.YtooogaogbffjfaaMBookSumsac
import Derived.Test.YtooogaogbffjfaaMBookSumsad
/-
  Texts of this claim, one behind the other: what they prove stands above each.
-/
section
-- Written by a program of this session out of the translation's print; not trusted: checked by the kernel.
namespace Go.Proofs.Ytooogaogbffjfaa.PB
open Go.Proofs.Ytooogaogbffjfaa.Ext
open Go.RowKit Go.Proofs.YtooogaogbffjfaaW.PrintWords Go.Proofs.YtooogaogbffjfaaW.PrintLast Go.Proofs.YtooogaogbffjfaaW.PrintMore
attribute [local go_sem] max2_int min2_int max_two min_two max_three min_three max_four min_four   -- for this text's walks alone
set_option linter.unusedVariables false
set_option linter.unusedSimpArgs false
/-! ### aircheckref24_Ints: function 23 -/
def aircheckref24_Ints.l0 : Nat → List Int → List Int → Int → Option (Bool)
 | 0, _, _, _ => none
 | k + 1, x0, x1, x5 => if x5 < (x0.length : Int) then (if 0 ≤ x5 then (if x5 < (x1.length : Int) then (if (rd x0 x5) = (rd x1 x5) then (aircheckref24_Ints.l0 k x0 x1 (wrap64 (x5 + 1))) else (some false)) else (none)) else (none)) else (some true)
def aircheckref24_Ints.f (k : Nat) (l0 : List Int) (l1 : List Int) : Option (Bool) := if (l0.length : Int) = (l1.length : Int) then (aircheckref24_Ints.l0 k l0 l1 0) else (some false)
set_option maxHeartbeats 8000000 in
set_option maxRecDepth 100000 in
theorem aircheckref24_Ints.calls (k : Nat) (A0 : Option Addr) (c0 : Nat) (l0 : List Int) (A1 : Option Addr) (c1 : Nat) (l1 : List Int) (r : Bool) (w : World) (hr0 : Kd.C (Kd.int .i64) w A0 l0.length l0) (hc0 : l0.length ≤ c0) (hr1 : Kd.C (Kd.int .i64) w A1 l1.length l1) (hc1 : l1.length ≤ c1) (h : aircheckref24_Ints.f k l0 l1 = some r) :
  Calls Try.prog 23 #[.slice A0 l0.length c0, .slice A1 l1.length c1] w fun e w' => e = .returned (.bool r) ∧ Drawn0 w w' := by
 have HR0 := Aside0.mk hr0
 have HC0 := Aside0.mk hc0
 clear hr0 hc0
 have HR1 := Aside0.mk hr1
 have HC1 := Aside0.mk hc1
 clear hr1 hc1
 have H : (if (l0.length : Int) = (l1.length : Int) then (aircheckref24_Ints.l0 k l0 l1 0) else (some false)) = some r := h
 clear h
 by_cases c3 : (l0.length : Int) = (l1.length : Int)
 ·rw [if_pos c3] at H
  have c3b0 : ((l0.length : Int) == (l1.length : Int)) = true := beq_iff_eq.mpr c3
  have c3b1 : ((l0.length : Int) != (l1.length : Int)) = false := bne_eq_false_iff_eq.mpr c3
  have c3b2 : (l0.length == l1.length) = true := by first | simpa using c3 | (simp at c3 ⊢; omega)
  clear c3
  have H' := Aside0.mk H
  clear H
  go_enter Try.func23, Try.ntmps23
  go_wp2
  repeat (go_quiet (fail); try go_wp2)
  go_loopg [5] k (fun kq v5 w' => ∃ (x5_1 : Int), v5 = .int .i64 x5_1 ∧ Aside0 (aircheckref24_Ints.l0 kq l0 l1 x5_1 = some r) ∧ Aside0 (kq ≤ k) ∧ Drawn0 w w')
  case atStart => exact ⟨(0), (by first | rfl | (simp; done) | (simp [*]; done)), H', ⟨Nat.le_refl _⟩, by repeat (first | exact Drawn0.refl _ | apply Drawn0.step)⟩
  case round =>
   clear H'
   try clear c1
   try clear c2
   try clear p2
   try clear c3
   try clear c3b0
   try clear c3b1
   try clear c3b2
   obtain ⟨x5_1, rfl, HA, HK1, ⟨m1, rfl⟩⟩ := hrel
   cases gk with
   | zero => exact absurd HA.out (by simp [aircheckref24_Ints.l0])
   | succ k1 =>
    have H := HA.out
    clear HA
    simp only [aircheckref24_Ints.l0] at H
    by_cases c4 : x5_1 < (l0.length : Int)
    ·rw [if_pos c4] at H
     have c4b0 : decide (x5_1 < (l0.length : Int)) = true := decide_eq_true c4
     clear c4
     by_cases c5 : 0 ≤ x5_1
     ·rw [if_pos c5] at H
      have c5b0 : decide (0 ≤ x5_1) = true := decide_eq_true c5
      clear c5
      by_cases c6 : x5_1 < (l1.length : Int)
      ·rw [if_pos c6] at H
       have c6b0 : decide (x5_1 < (l1.length : Int)) = true := decide_eq_true c6
       clear c6
       by_cases c7 : (rd l0 x5_1) = (rd l1 x5_1)
       ·rw [if_pos c7] at H
        have c7b0 : ((rd l0 x5_1) == (rd l1 x5_1)) = true := beq_iff_eq.mpr c7
        have c7b1 : ((rd l0 x5_1) != (rd l1 x5_1)) = false := bne_eq_false_iff_eq.mpr c7
        clear c7
        have H' := Aside0.mk H
        clear H
        have p107 : 0 ≤ (x5_1 : Int) := of_decide_eq_true (by first | (with_reducible assumption) | assumption)
        have q107 : x5_1 < (l0.length : Int) := of_decide_eq_true (by first | (with_reducible assumption) | assumption)
        obtain ⟨ad107, e107, hx107_0⟩ := Kd.at_int HR0.out x5_1 p107 q107
        cases e107
        replace p107 := eq_true p107
        replace q107 := eq_true q107
        have p108 : 0 ≤ (x5_1 : Int) := of_decide_eq_true (by first | (with_reducible assumption) | assumption)
        have q108 : x5_1 < (l1.length : Int) := of_decide_eq_true (by first | (with_reducible assumption) | assumption)
        obtain ⟨ad108, e108, hx108_0⟩ := Kd.at_int HR1.out x5_1 p108 q108
        cases e108
        replace p108 := eq_true p108
        replace q108 := eq_true q108
        go_wp2
        repeat (go_quiet (fail); try go_wp2)
        go_roundg k1
        case measure => have := HK1.out; omega
        case rel => exact ⟨(wrap64 (x5_1 + 1)), (by first | rfl | (simp; done) | (simp [*]; done)), H', ⟨by have := HK1.out; omega⟩, by repeat (first | exact Drawn0.refl _ | apply Drawn0.step)⟩
       ·rw [if_neg c7] at H
        have c7b0 : ((rd l0 x5_1) == (rd l1 x5_1)) = false := beq_eq_false_iff_ne.mpr c7
        have c7b1 : ((rd l0 x5_1) != (rd l1 x5_1)) = true := bne_iff_ne.mpr c7
        obtain rfl := Option.some.inj H
        have p107 : 0 ≤ (x5_1 : Int) := of_decide_eq_true (by first | (with_reducible assumption) | assumption)
        have q107 : x5_1 < (l0.length : Int) := of_decide_eq_true (by first | (with_reducible assumption) | assumption)
        obtain ⟨ad107, e107, hx107_0⟩ := Kd.at_int HR0.out x5_1 p107 q107
        cases e107
        replace p107 := eq_true p107
        replace q107 := eq_true q107
        have p108 : 0 ≤ (x5_1 : Int) := of_decide_eq_true (by first | (with_reducible assumption) | assumption)
        have q108 : x5_1 < (l1.length : Int) := of_decide_eq_true (by first | (with_reducible assumption) | assumption)
        obtain ⟨ad108, e108, hx108_0⟩ := Kd.at_int HR1.out x5_1 p108 q108
        cases e108
        replace p108 := eq_true p108
        replace q108 := eq_true q108
        go_wp2
        repeat (go_quiet (fail); try go_wp2)
        go_ret
        exact ⟨by first | rfl | (simp; done) | (simp [*]; done), by repeat (first | exact Drawn0.refl _ | apply Drawn0.step)⟩
      ·rw [if_neg c6] at H
       exact absurd H (by simp)
     ·rw [if_neg c5] at H
      exact absurd H (by simp)
    ·rw [if_neg c4] at H
     have c4b0 : decide (x5_1 < (l0.length : Int)) = false := decide_eq_false c4
     clear c4
     obtain rfl := Option.some.inj H
     go_wp2
     repeat (go_quiet (fail); try go_wp2)
     go_ret
     exact ⟨by first | rfl | (simp; done) | (simp [*]; done), by repeat (first | exact Drawn0.refl _ | apply Drawn0.step)⟩
 ·rw [if_neg c3] at H
  have c3b0 : ((l0.length : Int) == (l1.length : Int)) = false := beq_eq_false_iff_ne.mpr c3
  have c3b1 : ((l0.length : Int) != (l1.length : Int)) = true := bne_iff_ne.mpr c3
  have c3b2 : (l0.length == l1.length) = false := by first | simpa using c3 | (simp at c3 ⊢; omega)
  obtain rfl := Option.some.inj H
  go_enter Try.func23, Try.ntmps23
  go_wp2
  repeat (go_quiet (fail); try go_wp2)
  go_ret
  exact ⟨by first | rfl | (simp; done) | (simp [*]; done), by repeat (first | exact Drawn0.refl _ | apply Drawn0.step)⟩
end Go.Proofs.Ytooogaogbffjfaa.PB
end
section
-- Written by a program of this session out of the translation's print; not trusted: checked by the kernel.
namespace Go.Proofs.Ytooogaogbffjfaa.PB
open Go.Proofs.Ytooogaogbffjfaa.Ext
open Go.RowKit Go.Proofs.YtooogaogbffjfaaW.PrintWords Go.Proofs.YtooogaogbffjfaaW.PrintLast Go.Proofs.YtooogaogbffjfaaW.PrintMore
attribute [local go_sem] max2_int min2_int max_two min_two max_three min_three max_four min_four   -- for this text's walks alone
set_option linter.unusedVariables false
set_option linter.unusedSimpArgs false
theorem eqA27 (d : Nat) (w : World) (x0 y0 : Int) (x1 y1 : Int) (x2 y2 : Int) (x3 y3 : Int) (x4 y4 : Int) (x5 y5 : Int) (x6 y6 : Int) :
  (Op.equalIn (d + 2) 27 (.agg #[.int .i64 x0, .int .i64 x1, .int .i64 x2, .int .i64 x3, .int .i64 x4, .int .i64 x5, .int .i64 x6]) (.agg #[.int .i64 y0, .int .i64 y1, .int .i64 y2, .int .i64 y3, .int .i64 y4, .int .i64 y5, .int .i64 y6])).run Try.prog w = .ok (x0 == y0 && (x1 == y1 && (x2 == y2 && (x3 == y3 && (x4 == y4 && (x5 == y5 && (x6 == y6))))))) w := by
 refine eqA_of Try.underlying27 (by kernel_rfl) ?_
 refine eqf_cons (by rfl) (by go_simp; rfl) (by go_simp; rfl) (by go_simp) ?_
 refine eqf_cons (by rfl) (by go_simp; rfl) (by go_simp; rfl) (by go_simp) ?_
 refine eqf_cons (by rfl) (by go_simp; rfl) (by go_simp; rfl) (by go_simp) ?_
 refine eqf_cons (by rfl) (by go_simp; rfl) (by go_simp; rfl) (by go_simp) ?_
 refine eqf_cons (by rfl) (by go_simp; rfl) (by go_simp; rfl) (by go_simp) ?_
 refine eqf_cons (by rfl) (by go_simp; rfl) (by go_simp; rfl) (by go_simp) ?_
 exact eqf_last (by rfl) (by go_simp; rfl) (by go_simp; rfl) (by go_simp)
end Go.Proofs.Ytooogaogbffjfaa.PB
end
section
/-
  The law's fixed examples hold: the walk of sane.
-/
set_option linter.unusedVariables false
set_option linter.unusedSimpArgs false
namespace Go.Proofs.Ytooogaogbffjfaa.Ext
open Go.RowKit Go.Proofs.YtooogaogbffjfaaW.PrintWords Go.Proofs.YtooogaogbffjfaaW.PrintLast Go.Proofs.YtooogaogbffjfaaW.PrintMore Go.Proofs.Ytooogaogbffjfaa.PK Go.Proofs.Ytooogaogbffjfaa.Bk Go.Proofs.Ytooogaogbffjfaa.PB
attribute [local go_sem] Oper.semAt_some
attribute [local go_sem high] eqA27
/-- what a call leaves: rows of its own that read as a list -/
def Row {α : Type} (d : Kd α) (e : Nat) (w w' : World) (A : Option Addr) (n c : Nat) (l : List α) : Prop := Kd.C d w' A n l ∧ n ≤ c ∧ Below w.heap.size w w'
theorem Row.of {α : Type} {d : Kd α} {e : Nat} {w w' : World} {v : Value} {l : List α} (n : Nat) (hn : l.length = n) (h : Kd.R d e w' w.heap.size (fun _ => True) v l) (hb : Below w.heap.size w w') : ∃ A c, v = .slice A n c ∧ Row d e w w' A n c l := by
  obtain ⟨A, c, rfl⟩ := Kd.R_slice h
  have := Kd.R_reads' h
  subst hn
  exact ⟨A, c, rfl, this.2.2, this.2.1, hb⟩
def sp0 : S27 := ⟨2, 5, 0, 1, 90, 7, -1⟩
def sp1 : S27 := ⟨3, 40, 1, 0, 90, 7, 0⟩
def sp2 : S27 := ⟨2, 40, 0, 1, 60, 7, -1⟩
theorem s_post (w : World) : Calls Try.prog 9 #[.agg #[.int .i64 3, .slice none 0 0, .int .i64 0], .agg #[.int .i64 2, .int .i64 5, .int .i64 0, .int .i64 1, .int .i64 90, .int .i64 7, .int .i64 (-1)]] w fun e w' => ∃ A c, e = .returned (.tuple #[.agg #[.int .i64 3, .slice A 1 c, .int .i64 0], .int .i64 0, .int .i64 0]) ∧ Row k27 27 w w' A 1 c [sp0] := by
  refine (book_Post.calls 3 none 0 [] 0 2 5 0 1 90 7 (-1) 3 [sp0] 0 0 0 w (Kd.C_nil _ _) (Nat.le_refl _) (by kernel_rfl)).mono ?_
  rintro e w' ⟨v, rfl, hR, hb⟩
  obtain ⟨A, c, rfl, h⟩ := Row.of 1 rfl hR hb
  exact ⟨A, c, rfl, h⟩
theorem s_post2 (w : World) (A : Option Addr) (c : Nat) (hC : Kd.C k27 w A 3 [sp0, sp1, sp2]) (hc : 3 ≤ c) : Calls Try.prog 9 #[.agg #[.int .i64 3, .slice A 3 c, .int .i64 0], .agg #[.int .i64 2, .int .i64 39, .int .i64 0, .int .i64 1, .int .i64 1, .int .i64 0, .int .i64 (-1)]] w fun e w' => e = .returned (.tuple #[.agg #[.int .i64 0, .slice none 0 0, .int .i64 0], .int .i64 0, .int .i64 240]) ∧ Below w.heap.size w w' := by
  have ho : okAll 3 [] [sp0, sp1, sp2] = true := by kernel_rfl
  exact Post_no3 3 0 A c [sp0, sp1, sp2] ⟨2, 39, 0, 1, 1, 0, -1⟩ w hC (by decide) ho (by kernel_rfl) (by kernel_rfl)
theorem s_disp (w : World) (A : Option Addr) (c : Nat) (hC : Kd.C k27 w A 1 [sp0]) (hc : 1 ≤ c) : Calls Try.prog 15 #[.agg #[.int .i64 3, .slice A 1 c, .int .i64 0], .int .i64 0, .int .i64 40, .int .i64 60] w fun e w' => ∃ A c, e = .returned (.tuple #[.agg #[.int .i64 3, .slice A 3 c, .int .i64 0], .int .i64 0]) ∧ Row k27 27 w w' A 3 c [sp0, sp1, sp2] := by
  refine (book_Dispute.calls 3 A c [sp0] 0 0 40 60 3 [sp0, sp1, sp2] 0 0 w hC hc (by kernel_rfl)).mono ?_
  rintro e w' ⟨v, rfl, hR, hb⟩
  obtain ⟨A, c, rfl, h⟩ := Row.of 3 rfl hR hb
  exact ⟨A, c, rfl, h⟩
theorem s_disp2 (w : World) (A : Option Addr) (c : Nat) (hC : Kd.C k27 w A 3 [sp0, sp1, sp2]) (hc : 3 ≤ c) : Calls Try.prog 15 #[.agg #[.int .i64 3, .slice A 3 c, .int .i64 0], .int .i64 0, .int .i64 50, .int .i64 1] w fun e w' => e = .returned (.tuple #[.agg #[.int .i64 0, .slice none 0 0, .int .i64 0], .int .i64 240]) ∧ Below w.heap.size w w' :=
  Dispute_no6 3 0 A c 3 [sp0, sp1, sp2] rfl 0 50 1 w hC (by decide) (by kernel_rfl) (by kernel_rfl) 0 rfl (by decide) (by decide) (by decide) sp0 rfl (by kernel_rfl)
theorem s_close (w : World) (A : Option Addr) (c : Nat) (hC : Kd.C k27 w A 3 [sp0, sp1, sp2]) (hc : 3 ≤ c) : Calls Try.prog 17 #[.agg #[.int .i64 3, .slice A 3 c, .int .i64 0], .int .i64 0] w fun e w' => ∃ A c, e = .returned (.tuple #[.agg #[.int .i64 3, .slice A 3 c, .int .i64 1], .int .i64 0]) ∧ Row k27 27 w w' A 3 c [sp0, sp1, sp2] := by
  refine (book_Close.calls 3 A c [sp0, sp1, sp2] 0 0 3 [sp0, sp1, sp2] 1 0 w hC hc (by kernel_rfl)).mono ?_
  rintro e w' ⟨v, rfl, hR, hb⟩
  obtain ⟨A, c, rfl, h⟩ := Row.of 3 rfl hR hb
  exact ⟨A, c, rfl, h⟩
theorem s_stmt (w : World) (A : Option Addr) (n c : Nat) (ps : List S27) (hn : ps.length = n) (m : Int) (a b : Int) (hC : Kd.C k27 w A n ps) (hc : n ≤ c) (h : book_Statement.f 3 ps 0 m = some ([a, b, 0], 0)) : Calls Try.prog 19 #[.agg #[.int .i64 3, .slice A n c, .int .i64 0], .int .i64 m] w fun e w' => ∃ B d, e = .returned (.tuple #[.slice B 3 d, .int .i64 0]) ∧ Row (Kd.int .i64) 3 w w' B 3 d [a, b, 0] := by
  subst hn
  refine (book_Statement.calls 3 A c ps 0 m [a, b, 0] 0 w hC hc h).mono ?_
  rintro e w' ⟨v, rfl, hR, hb⟩
  obtain ⟨A, c, rfl, h⟩ := Row.of 3 rfl hR hb
  exact ⟨A, c, rfl, h⟩
theorem s_owed (w : World) (A : Option Addr) (c : Nat) (hC : Kd.C k27 w A 3 [sp0, sp1, sp2]) (hc : 3 ≤ c) : Calls Try.prog 24 #[.agg #[.int .i64 3, .slice A 3 c, .int .i64 0], .int .i64 7] w fun e w' => ∃ B d, e = .returned (.tuple #[.slice B 3 d, .int .i64 0]) ∧ Row (Kd.int .i64) 3 w w' B 3 d [-60, 60, 0] := by
  refine (book_Owed.calls 3 A c [sp0, sp1, sp2] 0 7 [-60, 60, 0] 0 w hC hc (by kernel_rfl)).mono ?_
  rintro e w' ⟨v, rfl, hR, hb⟩
  obtain ⟨A, c, rfl, h⟩ := Row.of 3 rfl hR hb
  exact ⟨A, c, rfl, h⟩
theorem s_bal (w : World) (A : Option Addr) (c : Nat) (hC : Kd.C k27 w A 3 [sp0, sp1, sp2]) (hc : 3 ≤ c) : Calls Try.prog 21 #[.agg #[.int .i64 3, .slice A 3 c, .int .i64 0], .int .i64 1, .int .i64 1] w fun e w' => e = .returned (.tuple #[.int .i64 (-30), .int .i64 0]) ∧ Below w.heap.size w w' :=
  book_Balance.calls 3 A c [sp0, sp1, sp2] 0 1 1 (-30) 0 w hC hc (by kernel_rfl)
theorem s_valid (w : World) (A : Option Addr) (c : Nat) (hC : Kd.C k27 w A 3 [sp0, sp1, sp2]) (hc : 3 ≤ c) : Calls Try.prog 11 #[.agg #[.int .i64 3, .slice A 3 c, .int .i64 1]] w fun e w' => e = .returned (.bool true) ∧ Below w.heap.size w w' :=
  book_Valid.calls 3 A c [sp0, sp1, sp2] 1 true w hC hc (by kernel_rfl)
theorem s_valid0 (w : World) : Calls Try.prog 11 #[.agg #[.int .i64 0, .slice none 0 0, .int .i64 0]] w fun e w' => e = .returned (.bool false) ∧ Below w.heap.size w w' :=
  book_Valid.calls 0 none 0 [] 0 false w (Kd.C_nil _ _) (Nat.le_refl _) (by kernel_rfl)
theorem s_ints (w : World) (A B : Option Addr) (c d : Nat) (x y z : Int) (hA : Kd.C (Kd.int .i64) w A 3 [x, y, z]) (hB : Kd.C (Kd.int .i64) w B 3 [x, y, z]) (hc : 3 ≤ c) (hd : 3 ≤ d) : Calls Try.prog 23 #[.slice A 3 c, .slice B 3 d] w fun e w' => e = .returned (.bool true) ∧ Drawn0 w w' := by
  refine aircheckref24_Ints.calls 5 A c [x, y, z] B d [x, y, z] true w hA hc hB hd ?_
  simp [aircheckref24_Ints.f, aircheckref24_Ints.l0, rd, wrap64]
theorem lit3 (w : World) (x y z : Int) : Kd.C (Kd.int .i64) (w.alloc (.cells #[.int .i64 x, .int .i64 y, .int .i64 z] 3)) (some ⟨w.heap.size, 0, none⟩) 3 [x, y, z] := by
  refine Kd.C_of_reads (d := (0 : Int)) (h1 := fun _ => rfl) ⟨rfl, by omega, fun _ => ⟨_, rfl, fun j hj => ?_⟩⟩
  have hB := Blk.newA w 3 #[.int .i64 x, .int .i64 y, .int .i64 z] [.int .i64 x, .int .i64 y, .int .i64 z] rfl
  match j, hj with
  | 0, _ => exact hB.cell (j := 0) rfl
  | 1, _ => exact hB.cell (j := 1) rfl
  | 2, _ => exact hB.cell (j := 2) rfl
set_option maxRecDepth 100000 in
set_option maxHeartbeats 8000000 in
theorem sane_walk (w : World) : Calls Try.prog 7 #[] w fun e w' => e = .returned (.bool true) ∧ Below w.heap.size w w' := by
  go_enter Try.func7, Try.ntmps7
  go_wp2_with (first | (go_at_call 9; (with_reducible refine (s_post _).mono ?_); rintro e w1 ⟨A1, c1, rfl, h1⟩) | fail)
  have hB1 : Blk (w1.alloc (.cells #[.int .i64 3, .slice A1 1 c1, .int .i64 0] 24)) w1.heap.size 24 [.int .i64 3, .slice A1 1 c1, .int .i64 0] := Blk.newA w1 _ _ _ rfl
  have hn1 : Below w1.heap.size w1 (w1.alloc (.cells #[.int .i64 3, .slice A1 1 c1, .int .i64 0] 24)) := (Below.refl _ _).alloc (Nat.le_refl _) _
  have hC1 := Kd.C_below h1.1 hn1
  have HW1 := Lib.hid (Below.trans h1.2.2 (hn1.mono h1.2.2.size))
  clear hn1
  generalize w1.alloc (.cells #[.int .i64 3, .slice A1 1 c1, .int .i64 0] 24) = W1 at *
  generalize w1.heap.size = g1 at *
  have HC1 := Lib.hid (And.intro hC1 h1.2.1)
  clear h1 hC1
  have x0 := hB1.cell (j := 0) rfl
  have x1 := hB1.cell (j := 1) rfl
  have x2 := hB1.cell (j := 2) rfl
  have HB1 := Lib.hid hB1
  clear hB1
  refine (s_stmt W1 A1 1 c1 [sp0] rfl 0 (-90) 90 HC1.out.1 HC1.out.2 (by kernel_rfl)).mono ?_
  rintro e w2 ⟨B2, d2, rfl, h2⟩
  clear x0 x1 x2
  have HB1 := Lib.hid (HB1.out.belowS h2.2.2)
  have HC1 := Lib.hid (And.intro (Kd.C_below HC1.out.1 h2.2.2) HC1.out.2)
  have HS2 := Lib.hid (And.intro h2.1 h2.2.1)
  have HW2 := Lib.hid (Below.trans HW1.out (h2.2.2.mono HW1.out.size))
  clear h2
  have x0 := HB1.out.cell (j := 0) rfl
  have x1 := HB1.out.cell (j := 1) rfl
  have x2 := HB1.out.cell (j := 2) rfl
  go_wp2_with fail
  clear x0 x1 x2
  refine (s_disp w2 A1 c1 HC1.out.1 HC1.out.2).mono ?_
  rintro e w3 ⟨A3, c3, rfl, h3⟩
  have HS2 := Lib.hid (And.intro (Kd.C_below HS2.out.1 h3.2.2) HS2.out.2)
  have HW3 := Below.trans HW2.out (h3.2.2.mono HW2.out.size)
  clear HB1 HC1
  go_wp2_with fail
  have hB3 : Blk (w3.alloc (.cells #[.int .i64 3, .slice A3 3 c3, .int .i64 0] 24)) w3.heap.size 24 [.int .i64 3, .slice A3 3 c3, .int .i64 0] := Blk.newA w3 _ _ _ rfl
  have hn3 : Below w3.heap.size w3 (w3.alloc (.cells #[.int .i64 3, .slice A3 3 c3, .int .i64 0] 24)) := (Below.refl _ _).alloc (Nat.le_refl _) _
  have hC3 := Kd.C_below h3.1 hn3
  have hS2 := And.intro (Kd.C_below HS2.out.1 hn3) HS2.out.2
  have HW3 := Lib.hid (Below.trans HW3 (hn3.mono HW3.size))
  clear hn3
  generalize w3.alloc (.cells #[.int .i64 3, .slice A3 3 c3, .int .i64 0] 24) = W3 at *
  generalize w3.heap.size = g3 at *
  have HC := Lib.hid (And.intro hC3 h3.2.1)
  have HS2 := Lib.hid hS2
  have HB := Lib.hid hB3
  have HW := HW3
  clear hC3 h3 hS2 hB3 HW3 HW1 HW2
  refine (s_stmt W3 A3 3 c3 [sp0, sp1, sp2] rfl 0 (-90) 90 HC.out.1 HC.out.2 (by kernel_rfl)).mono ?_
  rintro e w4 ⟨B4, d4, rfl, h4⟩
  have HC := Lib.hid (And.intro (Kd.C_below HC.out.1 h4.2.2) HC.out.2)
  have HB := Lib.hid (HB.out.belowS h4.2.2)
  have HW := Lib.hid (Below.trans HW.out (h4.2.2.mono HW.out.size))
  have HS2 := Lib.hid (And.intro (Kd.C_below HS2.out.1 h4.2.2) HS2.out.2)
  have HS4 := Lib.hid (And.intro h4.1 h4.2.1)
  clear h4
  have x0 := HB.out.cell (j := 0) rfl
  have x1 := HB.out.cell (j := 1) rfl
  have x2 := HB.out.cell (j := 2) rfl
  go_wp2_with fail
  clear x0 x1 x2
  refine (s_stmt w4 A3 3 c3 [sp0, sp1, sp2] rfl 1 30 (-30) HC.out.1 HC.out.2 (by kernel_rfl)).mono ?_
  rintro e w5 ⟨B5, d5, rfl, h5⟩
  have HC := Lib.hid (And.intro (Kd.C_below HC.out.1 h5.2.2) HC.out.2)
  have HB := Lib.hid (HB.out.belowS h5.2.2)
  have HW := Lib.hid (Below.trans HW.out (h5.2.2.mono HW.out.size))
  have HS2 := Lib.hid (And.intro (Kd.C_below HS2.out.1 h5.2.2) HS2.out.2)
  have HS4 := Lib.hid (And.intro (Kd.C_below HS4.out.1 h5.2.2) HS4.out.2)
  have HS5 := Lib.hid (And.intro h5.1 h5.2.1)
  clear h5
  have x0 := HB.out.cell (j := 0) rfl
  have x1 := HB.out.cell (j := 1) rfl
  have x2 := HB.out.cell (j := 2) rfl
  go_wp2_with fail
  clear x0 x1 x2
  refine (s_owed w5 A3 c3 HC.out.1 HC.out.2).mono ?_
  rintro e w6 ⟨B6, d6, rfl, h6⟩
  have HC := Lib.hid (And.intro (Kd.C_below HC.out.1 h6.2.2) HC.out.2)
  have HB := Lib.hid (HB.out.belowS h6.2.2)
  have HW := Lib.hid (Below.trans HW.out (h6.2.2.mono HW.out.size))
  have HS2 := Lib.hid (And.intro (Kd.C_below HS2.out.1 h6.2.2) HS2.out.2)
  have HS4 := Lib.hid (And.intro (Kd.C_below HS4.out.1 h6.2.2) HS4.out.2)
  have HS5 := Lib.hid (And.intro (Kd.C_below HS5.out.1 h6.2.2) HS5.out.2)
  have HS6 := Lib.hid (And.intro h6.1 h6.2.1)
  clear h6
  have x0 := HB.out.cell (j := 0) rfl
  have x1 := HB.out.cell (j := 1) rfl
  have x2 := HB.out.cell (j := 2) rfl
  go_wp2_with fail
  clear x0 x1 x2
  refine (s_disp2 w6 A3 c3 HC.out.1 HC.out.2).mono ?_
  rintro e w7 ⟨rfl, h7⟩
  have HC := Lib.hid (And.intro (Kd.C_below HC.out.1 h7) HC.out.2)
  have HB := Lib.hid (HB.out.belowS h7)
  have HW := Lib.hid (Below.trans HW.out (h7.mono HW.out.size))
  have HS2 := Lib.hid (And.intro (Kd.C_below HS2.out.1 h7) HS2.out.2)
  have HS4 := Lib.hid (And.intro (Kd.C_below HS4.out.1 h7) HS4.out.2)
  have HS5 := Lib.hid (And.intro (Kd.C_below HS5.out.1 h7) HS5.out.2)
  have HS6 := Lib.hid (And.intro (Kd.C_below HS6.out.1 h7) HS6.out.2)
  clear h7
  have x0 := c_old (o := .cells #[.int .i64 0, .slice none 0 0, .int .i64 0] 24) (HB.out.cell (j := 0) rfl)
  have x1 := c_old (o := .cells #[.int .i64 0, .slice none 0 0, .int .i64 0] 24) (HB.out.cell (j := 1) rfl)
  have x2 := c_old (o := .cells #[.int .i64 0, .slice none 0 0, .int .i64 0] 24) (HB.out.cell (j := 2) rfl)
  go_wp2_with fail
  clear x0 x1 x2
  have hn : Below w7.heap.size w7 (w7.alloc (.cells #[.int .i64 0, .slice none 0 0, .int .i64 0] 24)) := (Below.refl _ _).alloc (Nat.le_refl _) _
  have HC := Lib.hid (And.intro (Kd.C_below HC.out.1 hn) HC.out.2)
  have HB := Lib.hid (HB.out.belowS hn)
  have HW := Lib.hid (Below.trans HW.out (hn.mono HW.out.size))
  have HS2 := Lib.hid (And.intro (Kd.C_below HS2.out.1 hn) HS2.out.2)
  have HS4 := Lib.hid (And.intro (Kd.C_below HS4.out.1 hn) HS4.out.2)
  have HS5 := Lib.hid (And.intro (Kd.C_below HS5.out.1 hn) HS5.out.2)
  have HS6 := Lib.hid (And.intro (Kd.C_below HS6.out.1 hn) HS6.out.2)
  clear hn
  generalize w7.alloc (.cells #[.int .i64 0, .slice none 0 0, .int .i64 0] 24) = W7 at *
  refine (s_post2 W7 A3 c3 HC.out.1 HC.out.2).mono ?_
  rintro e w8 ⟨rfl, h8⟩
  have HC := Lib.hid (And.intro (Kd.C_below HC.out.1 h8) HC.out.2)
  have HB := Lib.hid (HB.out.belowS h8)
  have HW := Lib.hid (Below.trans HW.out (h8.mono HW.out.size))
  have HS2 := Lib.hid (And.intro (Kd.C_below HS2.out.1 h8) HS2.out.2)
  have HS4 := Lib.hid (And.intro (Kd.C_below HS4.out.1 h8) HS4.out.2)
  have HS5 := Lib.hid (And.intro (Kd.C_below HS5.out.1 h8) HS5.out.2)
  have HS6 := Lib.hid (And.intro (Kd.C_below HS6.out.1 h8) HS6.out.2)
  clear h8
  have x0 := c_old (o := .cells #[.int .i64 0, .slice none 0 0, .int .i64 0] 24) (HB.out.cell (j := 0) rfl)
  have x1 := c_old (o := .cells #[.int .i64 0, .slice none 0 0, .int .i64 0] 24) (HB.out.cell (j := 1) rfl)
  have x2 := c_old (o := .cells #[.int .i64 0, .slice none 0 0, .int .i64 0] 24) (HB.out.cell (j := 2) rfl)
  go_wp2_with fail
  clear x0 x1 x2
  have hn : Below w8.heap.size w8 (w8.alloc (.cells #[.int .i64 0, .slice none 0 0, .int .i64 0] 24)) := (Below.refl _ _).alloc (Nat.le_refl _) _
  have HC := Lib.hid (And.intro (Kd.C_below HC.out.1 hn) HC.out.2)
  have HB := Lib.hid (HB.out.belowS hn)
  have HW := Lib.hid (Below.trans HW.out (hn.mono HW.out.size))
  have HS2 := Lib.hid (And.intro (Kd.C_below HS2.out.1 hn) HS2.out.2)
  have HS4 := Lib.hid (And.intro (Kd.C_below HS4.out.1 hn) HS4.out.2)
  have HS5 := Lib.hid (And.intro (Kd.C_below HS5.out.1 hn) HS5.out.2)
  have HS6 := Lib.hid (And.intro (Kd.C_below HS6.out.1 hn) HS6.out.2)
  clear hn
  generalize w8.alloc (.cells #[.int .i64 0, .slice none 0 0, .int .i64 0] 24) = W8 at *
  refine (s_close W8 A3 c3 HC.out.1 HC.out.2).mono ?_
  rintro e w9 ⟨A9, c9, rfl, h9⟩
  have HC := Lib.hid (And.intro (Kd.C_below HC.out.1 h9.2.2) HC.out.2)
  have HB := Lib.hid (HB.out.belowS h9.2.2)
  have HW := Lib.hid (Below.trans HW.out (h9.2.2.mono HW.out.size))
  have HS2 := Lib.hid (And.intro (Kd.C_below HS2.out.1 h9.2.2) HS2.out.2)
  have HS4 := Lib.hid (And.intro (Kd.C_below HS4.out.1 h9.2.2) HS4.out.2)
  have HS5 := Lib.hid (And.intro (Kd.C_below HS5.out.1 h9.2.2) HS5.out.2)
  have HS6 := Lib.hid (And.intro (Kd.C_below HS6.out.1 h9.2.2) HS6.out.2)
  have HC9 := Lib.hid (And.intro h9.1 h9.2.1)
  clear h9
  have x0 := c_old (o := .cells #[.int .i64 3, .slice A9 3 c9, .int .i64 1] 24) (HB.out.cell (j := 0) rfl)
  have x1 := c_old (o := .cells #[.int .i64 3, .slice A9 3 c9, .int .i64 1] 24) (HB.out.cell (j := 1) rfl)
  have x2 := c_old (o := .cells #[.int .i64 3, .slice A9 3 c9, .int .i64 1] 24) (HB.out.cell (j := 2) rfl)
  go_wp2_with fail
  clear x0 x1 x2
  have hn : Below w9.heap.size w9 (w9.alloc (.cells #[.int .i64 3, .slice A9 3 c9, .int .i64 1] 24)) := (Below.refl _ _).alloc (Nat.le_refl _) _
  have HB9 := Lib.hid (Blk.newA w9 24 #[.int .i64 3, .slice A9 3 c9, .int .i64 1] [.int .i64 3, .slice A9 3 c9, .int .i64 1] rfl)
  have HC := Lib.hid (And.intro (Kd.C_below HC.out.1 hn) HC.out.2)
  have HB := Lib.hid (HB.out.belowS hn)
  have HW := Lib.hid (Below.trans HW.out (hn.mono HW.out.size))
  have HS2 := Lib.hid (And.intro (Kd.C_below HS2.out.1 hn) HS2.out.2)
  have HS4 := Lib.hid (And.intro (Kd.C_below HS4.out.1 hn) HS4.out.2)
  have HS5 := Lib.hid (And.intro (Kd.C_below HS5.out.1 hn) HS5.out.2)
  have HS6 := Lib.hid (And.intro (Kd.C_below HS6.out.1 hn) HS6.out.2)
  have HC9 := Lib.hid (And.intro (Kd.C_below HC9.out.1 hn) HC9.out.2)
  clear hn
  generalize w9.alloc (.cells #[.int .i64 3, .slice A9 3 c9, .int .i64 1] 24) = W9 at *
  generalize w9.heap.size = g9 at *
  refine (s_bal W9 A3 c3 HC.out.1 HC.out.2).mono ?_
  rintro e w10 ⟨rfl, h10⟩
  have HC := Lib.hid (And.intro (Kd.C_below HC.out.1 h10) HC.out.2)
  have HB := Lib.hid (HB.out.belowS h10)
  have HW := Lib.hid (Below.trans HW.out (h10.mono HW.out.size))
  have HS2 := Lib.hid (And.intro (Kd.C_below HS2.out.1 h10) HS2.out.2)
  have HS4 := Lib.hid (And.intro (Kd.C_below HS4.out.1 h10) HS4.out.2)
  have HS5 := Lib.hid (And.intro (Kd.C_below HS5.out.1 h10) HS5.out.2)
  have HS6 := Lib.hid (And.intro (Kd.C_below HS6.out.1 h10) HS6.out.2)
  have HC9 := Lib.hid (And.intro (Kd.C_below HC9.out.1 h10) HC9.out.2)
  have HB9 := Lib.hid (HB9.out.belowS h10)
  clear h10
  have x0 := HB.out.cell (j := 0) rfl
  have x1 := HB.out.cell (j := 1) rfl
  have x2 := HB.out.cell (j := 2) rfl
  have y0 := HB9.out.cell (j := 0) rfl
  have y1 := HB9.out.cell (j := 1) rfl
  have y2 := HB9.out.cell (j := 2) rfl
  go_wp2_with fail
  clear x0 x1 x2 y0 y1 y2
  have hn : Below w10.heap.size w10 (w10.alloc (.cells #[.int .i64 (-90), .int .i64 90, .int .i64 0] 3)) := (Below.refl _ _).alloc (Nat.le_refl _) _
  have hl := lit3 w10 (-90) 90 0
  have HC := Lib.hid (And.intro (Kd.C_below HC.out.1 hn) HC.out.2)
  have HS4 := Lib.hid (And.intro (Kd.C_below HS4.out.1 hn) HS4.out.2)
  have HS5 := Lib.hid (And.intro (Kd.C_below HS5.out.1 hn) HS5.out.2)
  have HS6 := Lib.hid (And.intro (Kd.C_below HS6.out.1 hn) HS6.out.2)
  have HC9 := Lib.hid (And.intro (Kd.C_below HC9.out.1 hn) HC9.out.2)
  have HS2 := Lib.hid (And.intro (Kd.C_below HS2.out.1 hn) HS2.out.2)
  have HB := Lib.hid (HB.out.belowS hn)
  have HB9 := Lib.hid (HB9.out.belowS hn)
  have HW := Lib.hid (Below.trans HW.out (hn.mono HW.out.size))
  clear hn
  generalize w10.alloc (.cells #[.int .i64 (-90), .int .i64 90, .int .i64 0] 3) = V1 at *
  generalize w10.heap.size = l1 at *
  refine (s_ints V1 B2 (some ⟨l1, 0, none⟩) d2 3 (-90) 90 0 HS2.out.1 hl HS2.out.2 (Nat.le_refl _)).mono ?_
  rintro e v1 ⟨rfl, hd⟩
  clear hl
  have HC := Lib.hid (And.intro (Kd.C_below HC.out.1 hd.below) HC.out.2)
  have HS2 := Lib.hid (And.intro (Kd.C_below HS2.out.1 hd.below) HS2.out.2)
  have HS4 := Lib.hid (And.intro (Kd.C_below HS4.out.1 hd.below) HS4.out.2)
  have HS5 := Lib.hid (And.intro (Kd.C_below HS5.out.1 hd.below) HS5.out.2)
  have HS6 := Lib.hid (And.intro (Kd.C_below HS6.out.1 hd.below) HS6.out.2)
  have HC9 := Lib.hid (And.intro (Kd.C_below HC9.out.1 hd.below) HC9.out.2)
  have HB := Lib.hid (HB.out.belowS hd.below)
  have HB9 := Lib.hid (HB9.out.belowS hd.below)
  have HW := Lib.hid (Below.trans HW.out (hd.below.mono HW.out.size))
  clear hd
  go_wp2_with fail
  have hn : Below v1.heap.size v1 (v1.alloc (.cells #[.int .i64 (-90), .int .i64 90, .int .i64 0] 3)) := (Below.refl _ _).alloc (Nat.le_refl _) _
  have hl := lit3 v1 (-90) 90 0
  have HC := Lib.hid (And.intro (Kd.C_below HC.out.1 hn) HC.out.2)
  have HS2 := Lib.hid (And.intro (Kd.C_below HS2.out.1 hn) HS2.out.2)
  have HS5 := Lib.hid (And.intro (Kd.C_below HS5.out.1 hn) HS5.out.2)
  have HS6 := Lib.hid (And.intro (Kd.C_below HS6.out.1 hn) HS6.out.2)
  have HC9 := Lib.hid (And.intro (Kd.C_below HC9.out.1 hn) HC9.out.2)
  have HS4 := Lib.hid (And.intro (Kd.C_below HS4.out.1 hn) HS4.out.2)
  have HB := Lib.hid (HB.out.belowS hn)
  have HB9 := Lib.hid (HB9.out.belowS hn)
  have HW := Lib.hid (Below.trans HW.out (hn.mono HW.out.size))
  clear hn
  generalize v1.alloc (.cells #[.int .i64 (-90), .int .i64 90, .int .i64 0] 3) = V2 at *
  generalize v1.heap.size = l2 at *
  refine (s_ints V2 B4 (some ⟨l2, 0, none⟩) d4 3 (-90) 90 0 HS4.out.1 hl HS4.out.2 (Nat.le_refl _)).mono ?_
  rintro e v2 ⟨rfl, hd⟩
  clear hl
  have HC := Lib.hid (And.intro (Kd.C_below HC.out.1 hd.below) HC.out.2)
  have HS2 := Lib.hid (And.intro (Kd.C_below HS2.out.1 hd.below) HS2.out.2)
  have HS4 := Lib.hid (And.intro (Kd.C_below HS4.out.1 hd.below) HS4.out.2)
  have HS5 := Lib.hid (And.intro (Kd.C_below HS5.out.1 hd.below) HS5.out.2)
  have HS6 := Lib.hid (And.intro (Kd.C_below HS6.out.1 hd.below) HS6.out.2)
  have HC9 := Lib.hid (And.intro (Kd.C_below HC9.out.1 hd.below) HC9.out.2)
  have HB := Lib.hid (HB.out.belowS hd.below)
  have HB9 := Lib.hid (HB9.out.belowS hd.below)
  have HW := Lib.hid (Below.trans HW.out (hd.below.mono HW.out.size))
  clear hd
  go_wp2_with fail
  have hn : Below v2.heap.size v2 (v2.alloc (.cells #[.int .i64 30, .int .i64 (-30), .int .i64 0] 3)) := (Below.refl _ _).alloc (Nat.le_refl _) _
  have hl := lit3 v2 30 (-30) 0
  have HC := Lib.hid (And.intro (Kd.C_below HC.out.1 hn) HC.out.2)
  have HS2 := Lib.hid (And.intro (Kd.C_below HS2.out.1 hn) HS2.out.2)
  have HS4 := Lib.hid (And.intro (Kd.C_below HS4.out.1 hn) HS4.out.2)
  have HS6 := Lib.hid (And.intro (Kd.C_below HS6.out.1 hn) HS6.out.2)
  have HC9 := Lib.hid (And.intro (Kd.C_below HC9.out.1 hn) HC9.out.2)
  have HS5 := Lib.hid (And.intro (Kd.C_below HS5.out.1 hn) HS5.out.2)
  have HB := Lib.hid (HB.out.belowS hn)
  have HB9 := Lib.hid (HB9.out.belowS hn)
  have HW := Lib.hid (Below.trans HW.out (hn.mono HW.out.size))
  clear hn
  generalize v2.alloc (.cells #[.int .i64 30, .int .i64 (-30), .int .i64 0] 3) = V3 at *
  generalize v2.heap.size = l3 at *
  refine (s_ints V3 B5 (some ⟨l3, 0, none⟩) d5 3 30 (-30) 0 HS5.out.1 hl HS5.out.2 (Nat.le_refl _)).mono ?_
  rintro e v3 ⟨rfl, hd⟩
  clear hl
  have HC := Lib.hid (And.intro (Kd.C_below HC.out.1 hd.below) HC.out.2)
  have HS2 := Lib.hid (And.intro (Kd.C_below HS2.out.1 hd.below) HS2.out.2)
  have HS4 := Lib.hid (And.intro (Kd.C_below HS4.out.1 hd.below) HS4.out.2)
  have HS5 := Lib.hid (And.intro (Kd.C_below HS5.out.1 hd.below) HS5.out.2)
  have HS6 := Lib.hid (And.intro (Kd.C_below HS6.out.1 hd.below) HS6.out.2)
  have HC9 := Lib.hid (And.intro (Kd.C_below HC9.out.1 hd.below) HC9.out.2)
  have HB := Lib.hid (HB.out.belowS hd.below)
  have HB9 := Lib.hid (HB9.out.belowS hd.below)
  have HW := Lib.hid (Below.trans HW.out (hd.below.mono HW.out.size))
  clear hd
  go_wp2_with fail
  have hn : Below v3.heap.size v3 (v3.alloc (.cells #[.int .i64 (-60), .int .i64 60, .int .i64 0] 3)) := (Below.refl _ _).alloc (Nat.le_refl _) _
  have hl := lit3 v3 (-60) 60 0
  have HC := Lib.hid (And.intro (Kd.C_below HC.out.1 hn) HC.out.2)
  have HS2 := Lib.hid (And.intro (Kd.C_below HS2.out.1 hn) HS2.out.2)
  have HS4 := Lib.hid (And.intro (Kd.C_below HS4.out.1 hn) HS4.out.2)
  have HS5 := Lib.hid (And.intro (Kd.C_below HS5.out.1 hn) HS5.out.2)
  have HC9 := Lib.hid (And.intro (Kd.C_below HC9.out.1 hn) HC9.out.2)
  have HS6 := Lib.hid (And.intro (Kd.C_below HS6.out.1 hn) HS6.out.2)
  have HB := Lib.hid (HB.out.belowS hn)
  have HB9 := Lib.hid (HB9.out.belowS hn)
  have HW := Lib.hid (Below.trans HW.out (hn.mono HW.out.size))
  clear hn
  generalize v3.alloc (.cells #[.int .i64 (-60), .int .i64 60, .int .i64 0] 3) = V4 at *
  generalize v3.heap.size = l4 at *
  refine (s_ints V4 B6 (some ⟨l4, 0, none⟩) d6 3 (-60) 60 0 HS6.out.1 hl HS6.out.2 (Nat.le_refl _)).mono ?_
  rintro e v4 ⟨rfl, hd⟩
  clear hl
  have HC := Lib.hid (And.intro (Kd.C_below HC.out.1 hd.below) HC.out.2)
  have HS2 := Lib.hid (And.intro (Kd.C_below HS2.out.1 hd.below) HS2.out.2)
  have HS4 := Lib.hid (And.intro (Kd.C_below HS4.out.1 hd.below) HS4.out.2)
  have HS5 := Lib.hid (And.intro (Kd.C_below HS5.out.1 hd.below) HS5.out.2)
  have HS6 := Lib.hid (And.intro (Kd.C_below HS6.out.1 hd.below) HS6.out.2)
  have HC9 := Lib.hid (And.intro (Kd.C_below HC9.out.1 hd.below) HC9.out.2)
  have HB := Lib.hid (HB.out.belowS hd.below)
  have HB9 := Lib.hid (HB9.out.belowS hd.below)
  have HW := Lib.hid (Below.trans HW.out (hd.below.mono HW.out.size))
  clear hd
  have y0 := HB9.out.cell (j := 0) rfl
  have y1 := HB9.out.cell (j := 1) rfl
  have y2 := HB9.out.cell (j := 2) rfl
  go_wp2_with fail
  clear y0 y1 y2
  refine (s_valid v4 A9 c9 HC9.out.1 HC9.out.2).mono ?_
  rintro e v5 ⟨rfl, h5⟩
  have HC := Lib.hid (And.intro (Kd.C_below HC.out.1 h5) HC.out.2)
  have HB := Lib.hid (HB.out.belowS h5)
  have HW := Lib.hid (Below.trans HW.out (h5.mono HW.out.size))
  clear h5
  go_wp2_with fail
  refine (s_valid0 v5).mono ?_
  rintro e v6 ⟨rfl, h6⟩
  have HC := Lib.hid (And.intro (Kd.C_below HC.out.1 h6) HC.out.2)
  have HB := Lib.hid (HB.out.belowS h6)
  have HW := Lib.hid (Below.trans HW.out (h6.mono HW.out.size))
  clear h6
  have x0 := HB.out.cell (j := 0) rfl
  have x1 := HB.out.cell (j := 1) rfl
  have x2 := HB.out.cell (j := 2) rfl
  obtain ⟨ad, rfl, z0, z1, z2, z3, z4, z5, z6⟩ := at_T27 HC.out.1 1 (by omega) (by omega)
  have hz : rd_T27 [sp0, sp1, sp2] 1 = sp1 := rfl
  rw [hz] at z0 z1 z2 z3 z4 z5 z6
  unfold sp1 at z0 z1 z2 z3 z4 z5 z6
  rw [show (1 : Int).toNat * 7 = 7 from rfl, show ad.add 7 = ⟨ad.block, ad.off + 7, none⟩ from by simp [Addr.add]] at z0 z1 z2 z3 z4 z5 z6
  dsimp only at z0 z1 z2 z3 z4 z5 z6
  clear hz
  go_wp2_with fail
  go_ret
  exact ⟨rfl, HW.out⟩
def airchecklaw24_sane.f : Option Bool := some true
theorem airchecklaw24_sane.calls (r : Bool) (w : World) (h : airchecklaw24_sane.f = some r) : Calls Try.prog 7 #[] w fun e w' => e = .returned (.bool r) ∧ Below w.heap.size w w' := by
  obtain rfl := Option.some.inj h
  exact sane_walk w
end Go.Proofs.Ytooogaogbffjfaa.Ext
end
section
-- Written by a program of this session out of the translation's print; not trusted: checked by the kernel.
namespace Go.Proofs.Ytooogaogbffjfaa.PL
open Go.Proofs.Ytooogaogbffjfaa.Ext
open Go.RowKit Go.Proofs.YtooogaogbffjfaaW.PrintWords Go.Proofs.YtooogaogbffjfaaW.PrintLast Go.Proofs.YtooogaogbffjfaaW.PrintMore
attribute [local go_sem] max2_int min2_int max_two min_two max_three min_three max_four min_four   -- for this text's walks alone
set_option linter.unusedVariables false
set_option linter.unusedSimpArgs false
def errW : Option Int → Value
 | none => .nilIface
 | some c => .iface 0 (.int .i64 c)
theorem errW_none : errW none = .nilIface := rfl
theorem errW_some (c : Int) : errW (some c) = .iface 0 (.int .i64 c) := rfl
end Go.Proofs.Ytooogaogbffjfaa.PL
end
section
-- Written by a program of this session out of the translation's print; not trusted: checked by the kernel.
namespace Go.Proofs.Ytooogaogbffjfaa.PL
open Go.Proofs.Ytooogaogbffjfaa.Ext
open Go.RowKit Go.Proofs.YtooogaogbffjfaaW.PrintWords Go.Proofs.YtooogaogbffjfaaW.PrintLast Go.Proofs.YtooogaogbffjfaaW.PrintMore
attribute [local go_sem] max2_int min2_int max_two min_two max_three min_three max_four min_four   -- for this text's walks alone
set_option linter.unusedVariables false
set_option linter.unusedSimpArgs false
/-! ### book_Balance: function 21 -/
def book_Balance.f (a0_0 : Int) (l0_1 : List (S27)) (a0_2 : Int) (a1 : Int) (a2 : Int) : Option (Int × Int) := (book_Statement.f a0_0 l0_1 a0_2 a2).bind fun bt191 => (if bt191.2 = 0 then (if a1 < 0 then (some (0, 240)) else (if a1 ≥ (bt191.1.length : Int) then (some (0, 240)) else (if 0 ≤ a1 then (if a1 < (bt191.1.length : Int) then (some (rd bt191.1 a1, 0)) else (none)) else (none)))) else (some (0, 240)))
set_option maxHeartbeats 8000000 in
set_option maxRecDepth 100000 in
theorem book_Balance.calls (a0_0 : Int) (A0_1 : Option Addr) (c0_1 : Nat) (l0_1 : List (S27)) (a0_2 : Int) (a1 : Int) (a2 : Int) (r1 : Int) (r2 : Int) (w : World) (hr0_1 : Kd.C k27 w A0_1 l0_1.length l0_1) (hc0_1 : l0_1.length ≤ c0_1) (h : book_Balance.f a0_0 l0_1 a0_2 a1 a2 = some (r1, r2)) :
  Calls Try.prog 21 #[.agg #[.int .i64 a0_0, .slice A0_1 l0_1.length c0_1, .int .i64 a0_2], .int .i64 a1, .int .i64 a2] w fun e w' => e = .returned (.tuple #[.int .i64 r1, .int .i64 r2]) ∧ Below w.heap.size w w' := by
 have hu24 := Try.underlying24
 have HR0_1 := Aside0.mk hr0_1
 have HC0_1 := Aside0.mk hc0_1
 clear hr0_1 hc0_1
 have HB := Aside0.mk (Below.refl w.heap.size w)
 have H : ((book_Statement.f a0_0 l0_1 a0_2 a2).bind fun bt191 => (if bt191.2 = 0 then (if a1 < 0 then (some (0, 240)) else (if a1 ≥ (bt191.1.length : Int) then (some (0, 240)) else (if 0 ≤ a1 then (if a1 < (bt191.1.length : Int) then (some (rd bt191.1 a1, 0)) else (none)) else (none)))) else (some (0, 240)))) = some (r1, r2) := h
 clear h
 replace H := Option.bind_eq_some_iff.mp H
 obtain ⟨⟨t191, t194⟩, A40, H⟩ := H
 replace H : (if t194 = 0 then (if a1 < 0 then (some (0, 240)) else (if a1 ≥ (t191.length : Int) then (some (0, 240)) else (if 0 ≤ a1 then (if a1 < (t191.length : Int) then (some (rd t191 a1, 0)) else (none)) else (none)))) else (some (0, 240))) = some (r1, r2) := H
 have A4 := Aside0.mk A40
 clear A40
 by_cases c5 : t194 = 0
 ·rw [if_pos c5] at H
  have c5b0 : (t194 == 0) = true := beq_iff_eq.mpr c5
  have c5b1 : (t194 != 0) = false := bne_eq_false_iff_eq.mpr c5
  clear c5
  by_cases c6 : a1 < 0
  ·rw [if_pos c6] at H
   have c6b0 : decide (a1 < 0) = true := decide_eq_true c6
   clear c6
   simp only [Option.some.injEq, Prod.mk.injEq] at H
   obtain ⟨rfl, rfl⟩ := H
   go_enter Try.func21, Try.ntmps21
   go_wp2_with (first | ((with_reducible refine gate_dst (N := 3) rfl ?_); (try (refine gate_guard (by rfl) ?_; dsimp only)); refine box_event ?hg (N := 3) ?hd (cs := #[.int .i64 a0_0, .slice A0_1 l0_1.length c0_1, .int .i64 a0_2]) (t := 24) ?hr ?_; (case hd => rfl); (case hg => rfl); (case hr => first | (go_simp; done) | (go_simp; rfl)); intro gb190 hg w7 hbox hb; have n0_ := Aside0.mk (below_step (by repeat (first | (with_reducible first | exact HB.out | apply below_alloc | apply pw_below_drewN | apply below_drew1) | exact HB.out)) hb); have n1_ := Aside0.mk (hbox); have n2_ := Aside0.mk ((by rw [hg]; exact (below_size (by repeat (first | (with_reducible first | exact HB.out | apply below_alloc | apply pw_below_drewN | apply below_drew1) | exact HB.out))) : w.heap.size ≤ gb190)); have n3_ := Aside0.mk ((by rw [hg]; exact (below_size (by repeat (first | (with_reducible first | exact HB.out | apply below_alloc | apply pw_below_drewN | apply below_drew1) | exact HB.out))) : w.heap.size ≤ gb190)); clear HB; have HB := n0_; have BK190 := n1_; have GW190 := n2_; have GE190 := n3_; clear n0_ n1_ n2_ n3_; clear hb hbox hg; have hcz8_0 : w7.cell? ⟨gb190, 0, none⟩ = some (.int .i64 a0_0) := (blk_cell BK190.out 0).trans rfl; have hcz8_1 : w7.cell? ⟨gb190, 1, none⟩ = some (.slice A0_1 l0_1.length c0_1) := (blk_cell BK190.out 1).trans rfl; have hcz8_2 : w7.cell? ⟨gb190, 2, none⟩ = some (.int .i64 a0_2) := (blk_cell BK190.out 2).trans rfl; have hfz8_0 := blk_frozen BK190.out 0; have hfz8_1 := blk_frozen BK190.out 1; have hfz8_2 := blk_frozen BK190.out 2) | ((with_reducible refine gate_callee (f := 19) rfl ?_); refine goesL_ (some 13) rfl rfl Try.func19 (by kernel_rfl) rfl #[.agg #[.int .i64 a0_0, .slice A0_1 l0_1.length c0_1, .int .i64 a0_2], .int .i64 a2] rfl (by (try simp only [List.map_toArray, List.map_cons, List.map_nil]); first | done | rfl | (simp only [List.length_drop, List.length_take]; rfl)) ?_; (with_reducible refine (book_Statement.calls a0_0 _ _ l0_1 a0_2 a2 t191 t194 _ ?side1 ?side2 A4.out).mono ?_); (case side1 => repeat (first | exact (Kd.C_below HR0_1.out HB.out) | (with_reducible refine Kd.C_alloc ?_ _) | (with_reducible refine Kd.C_drewN ?_ _) | (with_reducible refine Kd.C_drew ?_))); (case side2 => exact HC0_1.out); rintro e w9 ⟨v192, rfl, ho0, hb⟩; refine ⟨_, rfl, ?_⟩; have n0_ := Aside0.mk (Kd.R_lower ho0 (below_size (by repeat (first | (with_reducible first | exact HB.out | apply below_alloc | apply pw_below_drewN | apply below_drew1 | refine below_set ?_ GE190.out) | exact HB.out)))); have n1_ := Aside0.mk (blk_below (g := gb190) (o := .cells #[.int .i64 a0_0, .slice A0_1 l0_1.length c0_1, .int .i64 a0_2] 24 (0, 0)) (by (with_reducible repeat (first | refine blk_drewN ?_ _ | refine blk_drew ?_ | refine blk_alloc ?_ _)); exact BK190.out) hb); have n2_ := Aside0.mk (below_step (by repeat (first | (with_reducible first | exact HB.out | apply below_alloc | apply pw_below_drewN | apply below_drew1 | refine below_set ?_ GE190.out) | exact HB.out)) hb); clear BK190; clear HB; have HO193 := n0_; have BK190 := n1_; have HB := n2_; clear n0_ n1_ n2_; (try clear hb); (try clear hb2); (try clear hk); (try clear hi); (try clear ho0)))
   go_ret2
   exact ⟨by first | rfl | (simp [errW_none, errW_some] <;> rfl) | (simp [*, errW_none, errW_some] <;> rfl), by repeat (first | (with_reducible first | exact HB.out | apply below_alloc | apply pw_below_drewN | apply below_drew1 | refine below_set ?_ GE190.out) | exact HB.out)⟩
  ·rw [if_neg c6] at H
   have c6b0 : decide (a1 < 0) = false := decide_eq_false c6
   clear c6
   by_cases c10 : a1 ≥ (t191.length : Int)
   ·rw [if_pos c10] at H
    have c10b0 : decide ((t191.length : Int) ≤ a1) = true := decide_eq_true c10
    clear c10
    simp only [Option.some.injEq, Prod.mk.injEq] at H
    obtain ⟨rfl, rfl⟩ := H
    go_enter Try.func21, Try.ntmps21
    go_wp2_with (first | ((with_reducible refine gate_dst (N := 3) rfl ?_); (try (refine gate_guard (by rfl) ?_; dsimp only)); refine box_event ?hg (N := 3) ?hd (cs := #[.int .i64 a0_0, .slice A0_1 l0_1.length c0_1, .int .i64 a0_2]) (t := 24) ?hr ?_; (case hd => rfl); (case hg => rfl); (case hr => first | (go_simp; done) | (go_simp; rfl)); intro gb190 hg w11 hbox hb; have n0_ := Aside0.mk (below_step (by repeat (first | (with_reducible first | exact HB.out | apply below_alloc | apply pw_below_drewN | apply below_drew1) | exact HB.out)) hb); have n1_ := Aside0.mk (hbox); have n2_ := Aside0.mk ((by rw [hg]; exact (below_size (by repeat (first | (with_reducible first | exact HB.out | apply below_alloc | apply pw_below_drewN | apply below_drew1) | exact HB.out))) : w.heap.size ≤ gb190)); have n3_ := Aside0.mk ((by rw [hg]; exact (below_size (by repeat (first | (with_reducible first | exact HB.out | apply below_alloc | apply pw_below_drewN | apply below_drew1) | exact HB.out))) : w.heap.size ≤ gb190)); clear HB; have HB := n0_; have BK190 := n1_; have GW190 := n2_; have GE190 := n3_; clear n0_ n1_ n2_ n3_; clear hb hbox hg; have hcz12_0 : w11.cell? ⟨gb190, 0, none⟩ = some (.int .i64 a0_0) := (blk_cell BK190.out 0).trans rfl; have hcz12_1 : w11.cell? ⟨gb190, 1, none⟩ = some (.slice A0_1 l0_1.length c0_1) := (blk_cell BK190.out 1).trans rfl; have hcz12_2 : w11.cell? ⟨gb190, 2, none⟩ = some (.int .i64 a0_2) := (blk_cell BK190.out 2).trans rfl; have hfz12_0 := blk_frozen BK190.out 0; have hfz12_1 := blk_frozen BK190.out 1; have hfz12_2 := blk_frozen BK190.out 2) | ((with_reducible refine gate_callee (f := 19) rfl ?_); refine goesL_ (some 13) rfl rfl Try.func19 (by kernel_rfl) rfl #[.agg #[.int .i64 a0_0, .slice A0_1 l0_1.length c0_1, .int .i64 a0_2], .int .i64 a2] rfl (by (try simp only [List.map_toArray, List.map_cons, List.map_nil]); first | done | rfl | (simp only [List.length_drop, List.length_take]; rfl)) ?_; (with_reducible refine (book_Statement.calls a0_0 _ _ l0_1 a0_2 a2 t191 t194 _ ?side1 ?side2 A4.out).mono ?_); (case side1 => repeat (first | exact (Kd.C_below HR0_1.out HB.out) | (with_reducible refine Kd.C_alloc ?_ _) | (with_reducible refine Kd.C_drewN ?_ _) | (with_reducible refine Kd.C_drew ?_))); (case side2 => exact HC0_1.out); rintro e w13 ⟨v192, rfl, ho0, hb⟩; refine ⟨_, rfl, ?_⟩; have n0_ := Aside0.mk (Kd.R_lower ho0 (below_size (by repeat (first | (with_reducible first | exact HB.out | apply below_alloc | apply pw_below_drewN | apply below_drew1 | refine below_set ?_ GE190.out) | exact HB.out)))); have n1_ := Aside0.mk (blk_below (g := gb190) (o := .cells #[.int .i64 a0_0, .slice A0_1 l0_1.length c0_1, .int .i64 a0_2] 24 (0, 0)) (by (with_reducible repeat (first | refine blk_drewN ?_ _ | refine blk_drew ?_ | refine blk_alloc ?_ _)); exact BK190.out) hb); have n2_ := Aside0.mk (below_step (by repeat (first | (with_reducible first | exact HB.out | apply below_alloc | apply pw_below_drewN | apply below_drew1 | refine below_set ?_ GE190.out) | exact HB.out)) hb); clear BK190; clear HB; have HO193 := n0_; have BK190 := n1_; have HB := n2_; clear n0_ n1_ n2_; (try clear hb); (try clear hb2); (try clear hk); (try clear hi); (try clear ho0); obtain ⟨Ao14, co14, eo14⟩ := Kd.R_slice HO193.out; subst eo14))
    go_ret2
    exact ⟨by first | rfl | (simp [errW_none, errW_some] <;> rfl) | (simp [*, errW_none, errW_some] <;> rfl), by repeat (first | (with_reducible first | exact HB.out | apply below_alloc | apply pw_below_drewN | apply below_drew1 | refine below_set ?_ GE190.out) | exact HB.out)⟩
   ·rw [if_neg c10] at H
    have c10b0 : decide ((t191.length : Int) ≤ a1) = false := decide_eq_false c10
    clear c10
    by_cases c15 : 0 ≤ a1
    ·rw [if_pos c15] at H
     have c15b0 : decide (0 ≤ a1) = true := decide_eq_true c15
     clear c15
     by_cases c16 : a1 < (t191.length : Int)
     ·rw [if_pos c16] at H
      have c16b0 : decide (a1 < (t191.length : Int)) = true := decide_eq_true c16
      clear c16
      simp only [Option.some.injEq, Prod.mk.injEq] at H
      obtain ⟨rfl, rfl⟩ := H
      go_enter Try.func21, Try.ntmps21
      go_wp2_with (first | ((with_reducible refine gate_dst (N := 3) rfl ?_); (try (refine gate_guard (by rfl) ?_; dsimp only)); refine box_event ?hg (N := 3) ?hd (cs := #[.int .i64 a0_0, .slice A0_1 l0_1.length c0_1, .int .i64 a0_2]) (t := 24) ?hr ?_; (case hd => rfl); (case hg => rfl); (case hr => first | (go_simp; done) | (go_simp; rfl)); intro gb190 hg w17 hbox hb; have n0_ := Aside0.mk (below_step (by repeat (first | (with_reducible first | exact HB.out | apply below_alloc | apply pw_below_drewN | apply below_drew1) | exact HB.out)) hb); have n1_ := Aside0.mk (hbox); have n2_ := Aside0.mk ((by rw [hg]; exact (below_size (by repeat (first | (with_reducible first | exact HB.out | apply below_alloc | apply pw_below_drewN | apply below_drew1) | exact HB.out))) : w.heap.size ≤ gb190)); have n3_ := Aside0.mk ((by rw [hg]; exact (below_size (by repeat (first | (with_reducible first | exact HB.out | apply below_alloc | apply pw_below_drewN | apply below_drew1) | exact HB.out))) : w.heap.size ≤ gb190)); clear HB; have HB := n0_; have BK190 := n1_; have GW190 := n2_; have GE190 := n3_; clear n0_ n1_ n2_ n3_; clear hb hbox hg; have hcz18_0 : w17.cell? ⟨gb190, 0, none⟩ = some (.int .i64 a0_0) := (blk_cell BK190.out 0).trans rfl; have hcz18_1 : w17.cell? ⟨gb190, 1, none⟩ = some (.slice A0_1 l0_1.length c0_1) := (blk_cell BK190.out 1).trans rfl; have hcz18_2 : w17.cell? ⟨gb190, 2, none⟩ = some (.int .i64 a0_2) := (blk_cell BK190.out 2).trans rfl; have hfz18_0 := blk_frozen BK190.out 0; have hfz18_1 := blk_frozen BK190.out 1; have hfz18_2 := blk_frozen BK190.out 2) | ((with_reducible refine gate_callee (f := 19) rfl ?_); refine goesL_ (some 13) rfl rfl Try.func19 (by kernel_rfl) rfl #[.agg #[.int .i64 a0_0, .slice A0_1 l0_1.length c0_1, .int .i64 a0_2], .int .i64 a2] rfl (by (try simp only [List.map_toArray, List.map_cons, List.map_nil]); first | done | rfl | (simp only [List.length_drop, List.length_take]; rfl)) ?_; (with_reducible refine (book_Statement.calls a0_0 _ _ l0_1 a0_2 a2 t191 t194 _ ?side1 ?side2 A4.out).mono ?_); (case side1 => repeat (first | exact (Kd.C_below HR0_1.out HB.out) | (with_reducible refine Kd.C_alloc ?_ _) | (with_reducible refine Kd.C_drewN ?_ _) | (with_reducible refine Kd.C_drew ?_))); (case side2 => exact HC0_1.out); rintro e w19 ⟨v192, rfl, ho0, hb⟩; refine ⟨_, rfl, ?_⟩; have n0_ := Aside0.mk (Kd.R_lower ho0 (below_size (by repeat (first | (with_reducible first | exact HB.out | apply below_alloc | apply pw_below_drewN | apply below_drew1 | refine below_set ?_ GE190.out) | exact HB.out)))); have n1_ := Aside0.mk (blk_below (g := gb190) (o := .cells #[.int .i64 a0_0, .slice A0_1 l0_1.length c0_1, .int .i64 a0_2] 24 (0, 0)) (by (with_reducible repeat (first | refine blk_drewN ?_ _ | refine blk_drew ?_ | refine blk_alloc ?_ _)); exact BK190.out) hb); have n2_ := Aside0.mk (below_step (by repeat (first | (with_reducible first | exact HB.out | apply below_alloc | apply pw_below_drewN | apply below_drew1 | refine below_set ?_ GE190.out) | exact HB.out)) hb); clear BK190; clear HB; have HO193 := n0_; have BK190 := n1_; have HB := n2_; clear n0_ n1_ n2_; (try clear hb); (try clear hb2); (try clear hk); (try clear hi); (try clear ho0); obtain ⟨Ao20, co20, eo20⟩ := Kd.R_slice HO193.out; subst eo20; have p195 : 0 ≤ (a1 : Int) := of_decide_eq_true (by first | (with_reducible assumption) | assumption); have q195 : a1 < (t191.length : Int) := of_decide_eq_true (by first | (with_reducible assumption) | assumption); obtain ⟨ad195, e195, hx195_0⟩ := Kd.at_int (Kd.R_reads' HO193.out).2.2 a1 p195 q195; cases e195; replace p195 := eq_true p195; replace q195 := eq_true q195))
      go_ret2
      exact ⟨by first | rfl | (simp [errW_none, errW_some] <;> rfl) | (simp [*, errW_none, errW_some] <;> rfl), by repeat (first | (with_reducible first | exact HB.out | apply below_alloc | apply pw_below_drewN | apply below_drew1 | refine below_set ?_ GE190.out) | exact HB.out)⟩
     ·rw [if_neg c16] at H
      exact absurd H (by simp)
    ·rw [if_neg c15] at H
     exact absurd H (by simp)
 ·rw [if_neg c5] at H
  have c5b0 : (t194 == 0) = false := beq_eq_false_iff_ne.mpr c5
  have c5b1 : (t194 != 0) = true := bne_iff_ne.mpr c5
  simp only [Option.some.injEq, Prod.mk.injEq] at H
  obtain ⟨rfl, rfl⟩ := H
  go_enter Try.func21, Try.ntmps21
  go_wp2_with (first | ((with_reducible refine gate_dst (N := 3) rfl ?_); (try (refine gate_guard (by rfl) ?_; dsimp only)); refine box_event ?hg (N := 3) ?hd (cs := #[.int .i64 a0_0, .slice A0_1 l0_1.length c0_1, .int .i64 a0_2]) (t := 24) ?hr ?_; (case hd => rfl); (case hg => rfl); (case hr => first | (go_simp; done) | (go_simp; rfl)); intro gb190 hg w21 hbox hb; have n0_ := Aside0.mk (below_step (by repeat (first | (with_reducible first | exact HB.out | apply below_alloc | apply pw_below_drewN | apply below_drew1) | exact HB.out)) hb); have n1_ := Aside0.mk (hbox); have n2_ := Aside0.mk ((by rw [hg]; exact (below_size (by repeat (first | (with_reducible first | exact HB.out | apply below_alloc | apply pw_below_drewN | apply below_drew1) | exact HB.out))) : w.heap.size ≤ gb190)); have n3_ := Aside0.mk ((by rw [hg]; exact (below_size (by repeat (first | (with_reducible first | exact HB.out | apply below_alloc | apply pw_below_drewN | apply below_drew1) | exact HB.out))) : w.heap.size ≤ gb190)); clear HB; have HB := n0_; have BK190 := n1_; have GW190 := n2_; have GE190 := n3_; clear n0_ n1_ n2_ n3_; clear hb hbox hg; have hcz22_0 : w21.cell? ⟨gb190, 0, none⟩ = some (.int .i64 a0_0) := (blk_cell BK190.out 0).trans rfl; have hcz22_1 : w21.cell? ⟨gb190, 1, none⟩ = some (.slice A0_1 l0_1.length c0_1) := (blk_cell BK190.out 1).trans rfl; have hcz22_2 : w21.cell? ⟨gb190, 2, none⟩ = some (.int .i64 a0_2) := (blk_cell BK190.out 2).trans rfl; have hfz22_0 := blk_frozen BK190.out 0; have hfz22_1 := blk_frozen BK190.out 1; have hfz22_2 := blk_frozen BK190.out 2) | ((with_reducible refine gate_callee (f := 19) rfl ?_); refine goesL_ (some 13) rfl rfl Try.func19 (by kernel_rfl) rfl #[.agg #[.int .i64 a0_0, .slice A0_1 l0_1.length c0_1, .int .i64 a0_2], .int .i64 a2] rfl (by (try simp only [List.map_toArray, List.map_cons, List.map_nil]); first | done | rfl | (simp only [List.length_drop, List.length_take]; rfl)) ?_; (with_reducible refine (book_Statement.calls a0_0 _ _ l0_1 a0_2 a2 t191 t194 _ ?side1 ?side2 A4.out).mono ?_); (case side1 => repeat (first | exact (Kd.C_below HR0_1.out HB.out) | (with_reducible refine Kd.C_alloc ?_ _) | (with_reducible refine Kd.C_drewN ?_ _) | (with_reducible refine Kd.C_drew ?_))); (case side2 => exact HC0_1.out); rintro e w23 ⟨v192, rfl, ho0, hb⟩; refine ⟨_, rfl, ?_⟩; have n0_ := Aside0.mk (Kd.R_lower ho0 (below_size (by repeat (first | (with_reducible first | exact HB.out | apply below_alloc | apply pw_below_drewN | apply below_drew1 | refine below_set ?_ GE190.out) | exact HB.out)))); have n1_ := Aside0.mk (blk_below (g := gb190) (o := .cells #[.int .i64 a0_0, .slice A0_1 l0_1.length c0_1, .int .i64 a0_2] 24 (0, 0)) (by (with_reducible repeat (first | refine blk_drewN ?_ _ | refine blk_drew ?_ | refine blk_alloc ?_ _)); exact BK190.out) hb); have n2_ := Aside0.mk (below_step (by repeat (first | (with_reducible first | exact HB.out | apply below_alloc | apply pw_below_drewN | apply below_drew1 | refine below_set ?_ GE190.out) | exact HB.out)) hb); clear BK190; clear HB; have HO193 := n0_; have BK190 := n1_; have HB := n2_; clear n0_ n1_ n2_; (try clear hb); (try clear hb2); (try clear hk); (try clear hi); (try clear ho0)))
  go_ret2
  exact ⟨by first | rfl | (simp [errW_none, errW_some] <;> rfl) | (simp [*, errW_none, errW_some] <;> rfl), by repeat (first | (with_reducible first | exact HB.out | apply below_alloc | apply pw_below_drewN | apply below_drew1 | refine below_set ?_ GE190.out) | exact HB.out)⟩
end Go.Proofs.Ytooogaogbffjfaa.PL
end
