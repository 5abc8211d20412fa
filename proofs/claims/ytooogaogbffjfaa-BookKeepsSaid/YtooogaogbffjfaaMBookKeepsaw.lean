import Derived.Test.YtooogaogbffjfaaMBookKeepsap
import Derived.Test.YtooogaogbffjfaaMBookKeepsas
import Derived.Test.YtooogaogbffjfaaMBookKeepsau
import Derived.Test.YtooogaogbffjfaaMBookKeepsav
/-
  Texts of this claim, one behind the other: what they prove stands above each.
-/
section
-- Written by a program of this session out of the translation's print; not trusted: checked by the kernel.
namespace Go.Proofs.Ytooogaogbffjfaa.PB
open Go.Proofs.Ytooogaogbffjfaa.Ext
open Go.RowKit Go.Proofs.YtooogaogbffjfaaW.PrintWords Go.Proofs.YtooogaogbffjfaaW.PrintLast Go.Proofs.YtooogaogbffjfaaW.PrintMore
attribute [local go_sem] max2_int min2_int max_two min_two max_three min_three max_four min_four   -- for this text's walks alone
set_option linter.unusedVariables false
set_option linter.unusedSimpArgs false
/-! ### book_Balance: function 21 -/
def book_Balance.f (a0_0 : Int) (l0_1 : List (S27)) (a0_2 : Int) (a1 : Int) (a2 : Int) : Option (Int × Int) := (book_Statement.f a0_0 l0_1 a0_2 a2).bind fun bt102 => (if bt102.2 = 0 then (if a1 < 0 then (some (0, 240)) else (if a1 ≥ (bt102.1.length : Int) then (some (0, 240)) else (if 0 ≤ a1 then (if a1 < (bt102.1.length : Int) then (some (rd bt102.1 a1, 0)) else (none)) else (none)))) else (some (0, 240)))
set_option maxHeartbeats 8000000 in
set_option maxRecDepth 100000 in
theorem book_Balance.calls (a0_0 : Int) (A0_1 : Option Addr) (c0_1 : Nat) (l0_1 : List (S27)) (a0_2 : Int) (a1 : Int) (a2 : Int) (r1 : Int) (r2 : Int) (w : World) (hr0_1 : Kd.C k27 w A0_1 l0_1.length l0_1) (hc0_1 : l0_1.length ≤ c0_1) (h : book_Balance.f a0_0 l0_1 a0_2 a1 a2 = some (r1, r2)) :
  Calls Try.prog 21 #[.agg #[.int .i64 a0_0, .slice A0_1 l0_1.length c0_1, .int .i64 a0_2], .int .i64 a1, .int .i64 a2] w fun e w' => e = .returned (.tuple #[.int .i64 r1, .int .i64 r2]) ∧ Below w.heap.size w w' := by
 have hu24 := Try.underlying24
 have HR0_1 := Aside0.mk hr0_1
 have HC0_1 := Aside0.mk hc0_1
 clear hr0_1 hc0_1
 have HB := Aside0.mk (Below.refl w.heap.size w)
 have H : ((book_Statement.f a0_0 l0_1 a0_2 a2).bind fun bt102 => (if bt102.2 = 0 then (if a1 < 0 then (some (0, 240)) else (if a1 ≥ (bt102.1.length : Int) then (some (0, 240)) else (if 0 ≤ a1 then (if a1 < (bt102.1.length : Int) then (some (rd bt102.1 a1, 0)) else (none)) else (none)))) else (some (0, 240)))) = some (r1, r2) := h
 clear h
 replace H := Option.bind_eq_some_iff.mp H
 obtain ⟨⟨t102, t105⟩, A40, H⟩ := H
 replace H : (if t105 = 0 then (if a1 < 0 then (some (0, 240)) else (if a1 ≥ (t102.length : Int) then (some (0, 240)) else (if 0 ≤ a1 then (if a1 < (t102.length : Int) then (some (rd t102 a1, 0)) else (none)) else (none)))) else (some (0, 240))) = some (r1, r2) := H
 have A4 := Aside0.mk A40
 clear A40
 by_cases c5 : t105 = 0
 ·rw [if_pos c5] at H
  have c5b0 : (t105 == 0) = true := beq_iff_eq.mpr c5
  have c5b1 : (t105 != 0) = false := bne_eq_false_iff_eq.mpr c5
  clear c5
  by_cases c6 : a1 < 0
  ·rw [if_pos c6] at H
   have c6b0 : decide (a1 < 0) = true := decide_eq_true c6
   clear c6
   simp only [Option.some.injEq, Prod.mk.injEq] at H
   obtain ⟨rfl, rfl⟩ := H
   go_enter Try.func21, Try.ntmps21
   go_wp2_with (first | ((with_reducible refine gate_dst (N := 3) rfl ?_); (try (refine gate_guard (by rfl) ?_; dsimp only)); refine box_event ?hg (N := 3) ?hd (cs := #[.int .i64 a0_0, .slice A0_1 l0_1.length c0_1, .int .i64 a0_2]) (t := 24) ?hr ?_; (case hd => rfl); (case hg => rfl); (case hr => first | (go_simp; done) | (go_simp; rfl)); intro gb101 hg w7 hbox hb; have n0_ := Aside0.mk (below_step (by repeat (first | (with_reducible first | exact HB.out | apply below_alloc | apply pw_below_drewN | apply below_drew1) | exact HB.out)) hb); have n1_ := Aside0.mk (hbox); have n2_ := Aside0.mk ((by rw [hg]; exact (below_size (by repeat (first | (with_reducible first | exact HB.out | apply below_alloc | apply pw_below_drewN | apply below_drew1) | exact HB.out))) : w.heap.size ≤ gb101)); have n3_ := Aside0.mk ((by rw [hg]; exact (below_size (by repeat (first | (with_reducible first | exact HB.out | apply below_alloc | apply pw_below_drewN | apply below_drew1) | exact HB.out))) : w.heap.size ≤ gb101)); clear HB; have HB := n0_; have BK101 := n1_; have GW101 := n2_; have GE101 := n3_; clear n0_ n1_ n2_ n3_; clear hb hbox hg; have hcz8_0 : w7.cell? ⟨gb101, 0, none⟩ = some (.int .i64 a0_0) := (blk_cell BK101.out 0).trans rfl; have hcz8_1 : w7.cell? ⟨gb101, 1, none⟩ = some (.slice A0_1 l0_1.length c0_1) := (blk_cell BK101.out 1).trans rfl; have hcz8_2 : w7.cell? ⟨gb101, 2, none⟩ = some (.int .i64 a0_2) := (blk_cell BK101.out 2).trans rfl; have hfz8_0 := blk_frozen BK101.out 0; have hfz8_1 := blk_frozen BK101.out 1; have hfz8_2 := blk_frozen BK101.out 2) | ((with_reducible refine gate_callee (f := 19) rfl ?_); refine goesL_ (some 13) rfl rfl Try.func19 (by kernel_rfl) rfl #[.agg #[.int .i64 a0_0, .slice A0_1 l0_1.length c0_1, .int .i64 a0_2], .int .i64 a2] rfl (by (try simp only [List.map_toArray, List.map_cons, List.map_nil]); first | done | rfl | (simp only [List.length_drop, List.length_take]; rfl)) ?_; (with_reducible refine (book_Statement.calls a0_0 _ _ l0_1 a0_2 a2 t102 t105 _ ?side1 ?side2 A4.out).mono ?_); (case side1 => repeat (first | exact (Kd.C_below HR0_1.out HB.out) | (with_reducible refine Kd.C_alloc ?_ _) | (with_reducible refine Kd.C_drewN ?_ _) | (with_reducible refine Kd.C_drew ?_))); (case side2 => exact HC0_1.out); rintro e w9 ⟨v103, rfl, ho0, hb⟩; refine ⟨_, rfl, ?_⟩; have n0_ := Aside0.mk (Kd.R_lower ho0 (below_size (by repeat (first | (with_reducible first | exact HB.out | apply below_alloc | apply pw_below_drewN | apply below_drew1 | refine below_set ?_ GE101.out) | exact HB.out)))); have n1_ := Aside0.mk (blk_below (g := gb101) (o := .cells #[.int .i64 a0_0, .slice A0_1 l0_1.length c0_1, .int .i64 a0_2] 24 (0, 0)) (by (with_reducible repeat (first | refine blk_drewN ?_ _ | refine blk_drew ?_ | refine blk_alloc ?_ _)); exact BK101.out) hb); have n2_ := Aside0.mk (below_step (by repeat (first | (with_reducible first | exact HB.out | apply below_alloc | apply pw_below_drewN | apply below_drew1 | refine below_set ?_ GE101.out) | exact HB.out)) hb); clear BK101; clear HB; have HO104 := n0_; have BK101 := n1_; have HB := n2_; clear n0_ n1_ n2_; (try clear hb); (try clear hb2); (try clear hk); (try clear hi); (try clear ho0)))
   go_ret2
   exact ⟨by first | rfl | (simp [errW_none, errW_some] <;> rfl) | (simp [*, errW_none, errW_some] <;> rfl), by repeat (first | (with_reducible first | exact HB.out | apply below_alloc | apply pw_below_drewN | apply below_drew1 | refine below_set ?_ GE101.out) | exact HB.out)⟩
  ·rw [if_neg c6] at H
   have c6b0 : decide (a1 < 0) = false := decide_eq_false c6
   clear c6
   by_cases c10 : a1 ≥ (t102.length : Int)
   ·rw [if_pos c10] at H
    have c10b0 : decide ((t102.length : Int) ≤ a1) = true := decide_eq_true c10
    clear c10
    simp only [Option.some.injEq, Prod.mk.injEq] at H
    obtain ⟨rfl, rfl⟩ := H
    go_enter Try.func21, Try.ntmps21
    go_wp2_with (first | ((with_reducible refine gate_dst (N := 3) rfl ?_); (try (refine gate_guard (by rfl) ?_; dsimp only)); refine box_event ?hg (N := 3) ?hd (cs := #[.int .i64 a0_0, .slice A0_1 l0_1.length c0_1, .int .i64 a0_2]) (t := 24) ?hr ?_; (case hd => rfl); (case hg => rfl); (case hr => first | (go_simp; done) | (go_simp; rfl)); intro gb101 hg w11 hbox hb; have n0_ := Aside0.mk (below_step (by repeat (first | (with_reducible first | exact HB.out | apply below_alloc | apply pw_below_drewN | apply below_drew1) | exact HB.out)) hb); have n1_ := Aside0.mk (hbox); have n2_ := Aside0.mk ((by rw [hg]; exact (below_size (by repeat (first | (with_reducible first | exact HB.out | apply below_alloc | apply pw_below_drewN | apply below_drew1) | exact HB.out))) : w.heap.size ≤ gb101)); have n3_ := Aside0.mk ((by rw [hg]; exact (below_size (by repeat (first | (with_reducible first | exact HB.out | apply below_alloc | apply pw_below_drewN | apply below_drew1) | exact HB.out))) : w.heap.size ≤ gb101)); clear HB; have HB := n0_; have BK101 := n1_; have GW101 := n2_; have GE101 := n3_; clear n0_ n1_ n2_ n3_; clear hb hbox hg; have hcz12_0 : w11.cell? ⟨gb101, 0, none⟩ = some (.int .i64 a0_0) := (blk_cell BK101.out 0).trans rfl; have hcz12_1 : w11.cell? ⟨gb101, 1, none⟩ = some (.slice A0_1 l0_1.length c0_1) := (blk_cell BK101.out 1).trans rfl; have hcz12_2 : w11.cell? ⟨gb101, 2, none⟩ = some (.int .i64 a0_2) := (blk_cell BK101.out 2).trans rfl; have hfz12_0 := blk_frozen BK101.out 0; have hfz12_1 := blk_frozen BK101.out 1; have hfz12_2 := blk_frozen BK101.out 2) | ((with_reducible refine gate_callee (f := 19) rfl ?_); refine goesL_ (some 13) rfl rfl Try.func19 (by kernel_rfl) rfl #[.agg #[.int .i64 a0_0, .slice A0_1 l0_1.length c0_1, .int .i64 a0_2], .int .i64 a2] rfl (by (try simp only [List.map_toArray, List.map_cons, List.map_nil]); first | done | rfl | (simp only [List.length_drop, List.length_take]; rfl)) ?_; (with_reducible refine (book_Statement.calls a0_0 _ _ l0_1 a0_2 a2 t102 t105 _ ?side1 ?side2 A4.out).mono ?_); (case side1 => repeat (first | exact (Kd.C_below HR0_1.out HB.out) | (with_reducible refine Kd.C_alloc ?_ _) | (with_reducible refine Kd.C_drewN ?_ _) | (with_reducible refine Kd.C_drew ?_))); (case side2 => exact HC0_1.out); rintro e w13 ⟨v103, rfl, ho0, hb⟩; refine ⟨_, rfl, ?_⟩; have n0_ := Aside0.mk (Kd.R_lower ho0 (below_size (by repeat (first | (with_reducible first | exact HB.out | apply below_alloc | apply pw_below_drewN | apply below_drew1 | refine below_set ?_ GE101.out) | exact HB.out)))); have n1_ := Aside0.mk (blk_below (g := gb101) (o := .cells #[.int .i64 a0_0, .slice A0_1 l0_1.length c0_1, .int .i64 a0_2] 24 (0, 0)) (by (with_reducible repeat (first | refine blk_drewN ?_ _ | refine blk_drew ?_ | refine blk_alloc ?_ _)); exact BK101.out) hb); have n2_ := Aside0.mk (below_step (by repeat (first | (with_reducible first | exact HB.out | apply below_alloc | apply pw_below_drewN | apply below_drew1 | refine below_set ?_ GE101.out) | exact HB.out)) hb); clear BK101; clear HB; have HO104 := n0_; have BK101 := n1_; have HB := n2_; clear n0_ n1_ n2_; (try clear hb); (try clear hb2); (try clear hk); (try clear hi); (try clear ho0); obtain ⟨Ao14, co14, eo14⟩ := Kd.R_slice HO104.out; subst eo14))
    go_ret2
    exact ⟨by first | rfl | (simp [errW_none, errW_some] <;> rfl) | (simp [*, errW_none, errW_some] <;> rfl), by repeat (first | (with_reducible first | exact HB.out | apply below_alloc | apply pw_below_drewN | apply below_drew1 | refine below_set ?_ GE101.out) | exact HB.out)⟩
   ·rw [if_neg c10] at H
    have c10b0 : decide ((t102.length : Int) ≤ a1) = false := decide_eq_false c10
    clear c10
    by_cases c15 : 0 ≤ a1
    ·rw [if_pos c15] at H
     have c15b0 : decide (0 ≤ a1) = true := decide_eq_true c15
     clear c15
     by_cases c16 : a1 < (t102.length : Int)
     ·rw [if_pos c16] at H
      have c16b0 : decide (a1 < (t102.length : Int)) = true := decide_eq_true c16
      clear c16
      simp only [Option.some.injEq, Prod.mk.injEq] at H
      obtain ⟨rfl, rfl⟩ := H
      go_enter Try.func21, Try.ntmps21
      go_wp2_with (first | ((with_reducible refine gate_dst (N := 3) rfl ?_); (try (refine gate_guard (by rfl) ?_; dsimp only)); refine box_event ?hg (N := 3) ?hd (cs := #[.int .i64 a0_0, .slice A0_1 l0_1.length c0_1, .int .i64 a0_2]) (t := 24) ?hr ?_; (case hd => rfl); (case hg => rfl); (case hr => first | (go_simp; done) | (go_simp; rfl)); intro gb101 hg w17 hbox hb; have n0_ := Aside0.mk (below_step (by repeat (first | (with_reducible first | exact HB.out | apply below_alloc | apply pw_below_drewN | apply below_drew1) | exact HB.out)) hb); have n1_ := Aside0.mk (hbox); have n2_ := Aside0.mk ((by rw [hg]; exact (below_size (by repeat (first | (with_reducible first | exact HB.out | apply below_alloc | apply pw_below_drewN | apply below_drew1) | exact HB.out))) : w.heap.size ≤ gb101)); have n3_ := Aside0.mk ((by rw [hg]; exact (below_size (by repeat (first | (with_reducible first | exact HB.out | apply below_alloc | apply pw_below_drewN | apply below_drew1) | exact HB.out))) : w.heap.size ≤ gb101)); clear HB; have HB := n0_; have BK101 := n1_; have GW101 := n2_; have GE101 := n3_; clear n0_ n1_ n2_ n3_; clear hb hbox hg; have hcz18_0 : w17.cell? ⟨gb101, 0, none⟩ = some (.int .i64 a0_0) := (blk_cell BK101.out 0).trans rfl; have hcz18_1 : w17.cell? ⟨gb101, 1, none⟩ = some (.slice A0_1 l0_1.length c0_1) := (blk_cell BK101.out 1).trans rfl; have hcz18_2 : w17.cell? ⟨gb101, 2, none⟩ = some (.int .i64 a0_2) := (blk_cell BK101.out 2).trans rfl; have hfz18_0 := blk_frozen BK101.out 0; have hfz18_1 := blk_frozen BK101.out 1; have hfz18_2 := blk_frozen BK101.out 2) | ((with_reducible refine gate_callee (f := 19) rfl ?_); refine goesL_ (some 13) rfl rfl Try.func19 (by kernel_rfl) rfl #[.agg #[.int .i64 a0_0, .slice A0_1 l0_1.length c0_1, .int .i64 a0_2], .int .i64 a2] rfl (by (try simp only [List.map_toArray, List.map_cons, List.map_nil]); first | done | rfl | (simp only [List.length_drop, List.length_take]; rfl)) ?_; (with_reducible refine (book_Statement.calls a0_0 _ _ l0_1 a0_2 a2 t102 t105 _ ?side1 ?side2 A4.out).mono ?_); (case side1 => repeat (first | exact (Kd.C_below HR0_1.out HB.out) | (with_reducible refine Kd.C_alloc ?_ _) | (with_reducible refine Kd.C_drewN ?_ _) | (with_reducible refine Kd.C_drew ?_))); (case side2 => exact HC0_1.out); rintro e w19 ⟨v103, rfl, ho0, hb⟩; refine ⟨_, rfl, ?_⟩; have n0_ := Aside0.mk (Kd.R_lower ho0 (below_size (by repeat (first | (with_reducible first | exact HB.out | apply below_alloc | apply pw_below_drewN | apply below_drew1 | refine below_set ?_ GE101.out) | exact HB.out)))); have n1_ := Aside0.mk (blk_below (g := gb101) (o := .cells #[.int .i64 a0_0, .slice A0_1 l0_1.length c0_1, .int .i64 a0_2] 24 (0, 0)) (by (with_reducible repeat (first | refine blk_drewN ?_ _ | refine blk_drew ?_ | refine blk_alloc ?_ _)); exact BK101.out) hb); have n2_ := Aside0.mk (below_step (by repeat (first | (with_reducible first | exact HB.out | apply below_alloc | apply pw_below_drewN | apply below_drew1 | refine below_set ?_ GE101.out) | exact HB.out)) hb); clear BK101; clear HB; have HO104 := n0_; have BK101 := n1_; have HB := n2_; clear n0_ n1_ n2_; (try clear hb); (try clear hb2); (try clear hk); (try clear hi); (try clear ho0); obtain ⟨Ao20, co20, eo20⟩ := Kd.R_slice HO104.out; subst eo20; have p106 : 0 ≤ (a1 : Int) := of_decide_eq_true (by first | (with_reducible assumption) | assumption); have q106 : a1 < (t102.length : Int) := of_decide_eq_true (by first | (with_reducible assumption) | assumption); obtain ⟨ad106, e106, hx106_0⟩ := Kd.at_int (Kd.R_reads' HO104.out).2.2 a1 p106 q106; cases e106; replace p106 := eq_true p106; replace q106 := eq_true q106))
      go_ret2
      exact ⟨by first | rfl | (simp [errW_none, errW_some] <;> rfl) | (simp [*, errW_none, errW_some] <;> rfl), by repeat (first | (with_reducible first | exact HB.out | apply below_alloc | apply pw_below_drewN | apply below_drew1 | refine below_set ?_ GE101.out) | exact HB.out)⟩
     ·rw [if_neg c16] at H
      exact absurd H (by simp)
    ·rw [if_neg c15] at H
     exact absurd H (by simp)
 ·rw [if_neg c5] at H
  have c5b0 : (t105 == 0) = false := beq_eq_false_iff_ne.mpr c5
  have c5b1 : (t105 != 0) = true := bne_iff_ne.mpr c5
  simp only [Option.some.injEq, Prod.mk.injEq] at H
  obtain ⟨rfl, rfl⟩ := H
  go_enter Try.func21, Try.ntmps21
  go_wp2_with (first | ((with_reducible refine gate_dst (N := 3) rfl ?_); (try (refine gate_guard (by rfl) ?_; dsimp only)); refine box_event ?hg (N := 3) ?hd (cs := #[.int .i64 a0_0, .slice A0_1 l0_1.length c0_1, .int .i64 a0_2]) (t := 24) ?hr ?_; (case hd => rfl); (case hg => rfl); (case hr => first | (go_simp; done) | (go_simp; rfl)); intro gb101 hg w21 hbox hb; have n0_ := Aside0.mk (below_step (by repeat (first | (with_reducible first | exact HB.out | apply below_alloc | apply pw_below_drewN | apply below_drew1) | exact HB.out)) hb); have n1_ := Aside0.mk (hbox); have n2_ := Aside0.mk ((by rw [hg]; exact (below_size (by repeat (first | (with_reducible first | exact HB.out | apply below_alloc | apply pw_below_drewN | apply below_drew1) | exact HB.out))) : w.heap.size ≤ gb101)); have n3_ := Aside0.mk ((by rw [hg]; exact (below_size (by repeat (first | (with_reducible first | exact HB.out | apply below_alloc | apply pw_below_drewN | apply below_drew1) | exact HB.out))) : w.heap.size ≤ gb101)); clear HB; have HB := n0_; have BK101 := n1_; have GW101 := n2_; have GE101 := n3_; clear n0_ n1_ n2_ n3_; clear hb hbox hg; have hcz22_0 : w21.cell? ⟨gb101, 0, none⟩ = some (.int .i64 a0_0) := (blk_cell BK101.out 0).trans rfl; have hcz22_1 : w21.cell? ⟨gb101, 1, none⟩ = some (.slice A0_1 l0_1.length c0_1) := (blk_cell BK101.out 1).trans rfl; have hcz22_2 : w21.cell? ⟨gb101, 2, none⟩ = some (.int .i64 a0_2) := (blk_cell BK101.out 2).trans rfl; have hfz22_0 := blk_frozen BK101.out 0; have hfz22_1 := blk_frozen BK101.out 1; have hfz22_2 := blk_frozen BK101.out 2) | ((with_reducible refine gate_callee (f := 19) rfl ?_); refine goesL_ (some 13) rfl rfl Try.func19 (by kernel_rfl) rfl #[.agg #[.int .i64 a0_0, .slice A0_1 l0_1.length c0_1, .int .i64 a0_2], .int .i64 a2] rfl (by (try simp only [List.map_toArray, List.map_cons, List.map_nil]); first | done | rfl | (simp only [List.length_drop, List.length_take]; rfl)) ?_; (with_reducible refine (book_Statement.calls a0_0 _ _ l0_1 a0_2 a2 t102 t105 _ ?side1 ?side2 A4.out).mono ?_); (case side1 => repeat (first | exact (Kd.C_below HR0_1.out HB.out) | (with_reducible refine Kd.C_alloc ?_ _) | (with_reducible refine Kd.C_drewN ?_ _) | (with_reducible refine Kd.C_drew ?_))); (case side2 => exact HC0_1.out); rintro e w23 ⟨v103, rfl, ho0, hb⟩; refine ⟨_, rfl, ?_⟩; have n0_ := Aside0.mk (Kd.R_lower ho0 (below_size (by repeat (first | (with_reducible first | exact HB.out | apply below_alloc | apply pw_below_drewN | apply below_drew1 | refine below_set ?_ GE101.out) | exact HB.out)))); have n1_ := Aside0.mk (blk_below (g := gb101) (o := .cells #[.int .i64 a0_0, .slice A0_1 l0_1.length c0_1, .int .i64 a0_2] 24 (0, 0)) (by (with_reducible repeat (first | refine blk_drewN ?_ _ | refine blk_drew ?_ | refine blk_alloc ?_ _)); exact BK101.out) hb); have n2_ := Aside0.mk (below_step (by repeat (first | (with_reducible first | exact HB.out | apply below_alloc | apply pw_below_drewN | apply below_drew1 | refine below_set ?_ GE101.out) | exact HB.out)) hb); clear BK101; clear HB; have HO104 := n0_; have BK101 := n1_; have HB := n2_; clear n0_ n1_ n2_; (try clear hb); (try clear hb2); (try clear hk); (try clear hi); (try clear ho0)))
  go_ret2
  exact ⟨by first | rfl | (simp [errW_none, errW_some] <;> rfl) | (simp [*, errW_none, errW_some] <;> rfl), by repeat (first | (with_reducible first | exact HB.out | apply below_alloc | apply pw_below_drewN | apply below_drew1 | refine below_set ?_ GE101.out) | exact HB.out)⟩
end Go.Proofs.Ytooogaogbffjfaa.PB
end
section
-- Written by a program of this session out of the translation's print; not trusted: checked by the kernel.
namespace Go.Proofs.Ytooogaogbffjfaa.PB
open Go.Proofs.Ytooogaogbffjfaa.Ext
open Go.RowKit Go.Proofs.YtooogaogbffjfaaW.PrintWords Go.Proofs.YtooogaogbffjfaaW.PrintLast Go.Proofs.YtooogaogbffjfaaW.PrintMore
attribute [local go_sem] max2_int min2_int max_two min_two max_three min_three max_four min_four   -- for this text's walks alone
set_option linter.unusedVariables false
set_option linter.unusedSimpArgs false
/-! ### aircheckref24_Balance: function 22 -/
mutual
def aircheckref24_Balance.j0 : Nat → Int → Int → Bool → Int → List (S27) → Int → Option (Int × Int)
 | 0, _, _, _, _, _, _ => none
 | k + 1, x1, x2, x26, x302000, x302001, x302002 => if x26 = true then (some (0, 240)) else (aircheckref24_Balance.l0 k x1 x2 0 0 x302000 x302001 x302002)
def aircheckref24_Balance.l0 : Nat → Int → Int → Int → Int → Int → List (S27) → Int → Option (Int × Int)
 | 0, _, _, _, _, _, _, _ => none
 | k + 1, x1, x2, x8, x9, x302000, x302001, x302002 => if x9 < (x302001.length : Int) then (if 0 ≤ x9 then (if (wrap64 (Int.tdiv ((rd_T27 x302001 x9).f1) 30)) = x2 then (if ((rd_T27 x302001 x9).f3) = x1 then (if ((rd_T27 x302001 x9).f2) = x1 then (aircheckref24_Balance.l0 k x1 x2 (wrap64 ((wrap64 (x8 + ((rd_T27 x302001 x9).f4))) - ((rd_T27 x302001 x9).f4))) (wrap64 (x9 + 1)) x302000 x302001 x302002) else (aircheckref24_Balance.l0 k x1 x2 (wrap64 (x8 + ((rd_T27 x302001 x9).f4))) (wrap64 (x9 + 1)) x302000 x302001 x302002)) else (if ((rd_T27 x302001 x9).f2) = x1 then (aircheckref24_Balance.l0 k x1 x2 (wrap64 (x8 - ((rd_T27 x302001 x9).f4))) (wrap64 (x9 + 1)) x302000 x302001 x302002) else (aircheckref24_Balance.l0 k x1 x2 x8 (wrap64 (x9 + 1)) x302000 x302001 x302002))) else (aircheckref24_Balance.l0 k x1 x2 x8 (wrap64 (x9 + 1)) x302000 x302001 x302002)) else (none)) else (some (x8, 0))
end
def aircheckref24_Balance.f (k : Nat) (a0_0 : Int) (l0_1 : List (S27)) (a0_2 : Int) (a1 : Int) (a2 : Int) : Option (Int × Int) := (aircheckref24_Valid.f k a0_0 l0_1 a0_2).bind fun t302 => (if t302 = true then ((aircheckref24_in.f a1 0 (wrap64 (a0_0 - 1))).bind fun t303 => (if t303 = true then ((aircheckref24_in.f a2 0 11).bind fun t304 => (aircheckref24_Balance.j0 k a1 a2 (!t304) a0_0 l0_1 a0_2)) else (aircheckref24_Balance.j0 k a1 a2 true a0_0 l0_1 a0_2))) else (aircheckref24_Balance.j0 k a1 a2 true a0_0 l0_1 a0_2))
end Go.Proofs.Ytooogaogbffjfaa.PB
end
section
-- Written by a program of this session out of the translation's print; not trusted: checked by the kernel.
namespace Go.Proofs.Ytooogaogbffjfaa.PB
open Go.Proofs.Ytooogaogbffjfaa.Ext
open Go.RowKit Go.Proofs.YtooogaogbffjfaaW.PrintWords Go.Proofs.YtooogaogbffjfaaW.PrintLast Go.Proofs.YtooogaogbffjfaaW.PrintMore
attribute [local go_sem] max2_int min2_int max_two min_two max_three min_three max_four min_four   -- for this text's walks alone
set_option linter.unusedVariables false
set_option linter.unusedSimpArgs false
/-! ### aircheckref24_Statement: function 20 -/
def aircheckref24_Statement.l0 : Nat → Int → List Int → Int → Int → List (S27) → Int → Option (List Int × Int)
 | 0, _, _, _, _, _, _ => none
 | k + 1, x1, x6, x7, x308000, x308001, x308002 => if x7 < x308000 then ((aircheckref24_Balance.f k x308000 x308001 x308002 x7 x1).bind fun bt309 => (if bt309.2 = 0 then (if x6.length < 17592186044416 then (aircheckref24_Statement.l0 k x1 (x6 ++ [bt309.1]) (wrap64 (x7 + 1)) x308000 x308001 x308002) else (none)) else (some (([] : List Int), bt309.2)))) else (some (x6, 0))
def aircheckref24_Statement.f (k : Nat) (a0_0 : Int) (l0_1 : List (S27)) (a0_2 : Int) (a1 : Int) : Option (List Int × Int) := (aircheckref24_Valid.f k a0_0 l0_1 a0_2).bind fun t308 => (if t308 = true then (aircheckref24_Statement.l0 k a1 ([] : List Int) 0 a0_0 l0_1 a0_2) else (some (([] : List Int), 240)))
end Go.Proofs.Ytooogaogbffjfaa.PB
end
section
-- Written by a program of this session out of the translation's print; not trusted: checked by the kernel.
namespace Go.Proofs.Ytooogaogbffjfaa.PB
open Go.Proofs.Ytooogaogbffjfaa.Ext
open Go.RowKit Go.Proofs.YtooogaogbffjfaaW.PrintWords Go.Proofs.YtooogaogbffjfaaW.PrintLast Go.Proofs.YtooogaogbffjfaaW.PrintMore
attribute [local go_sem] max2_int min2_int max_two min_two max_three min_three max_four min_four   -- for this text's walks alone
set_option linter.unusedVariables false
set_option linter.unusedSimpArgs false
/-! ### aircheckref24_Owed: function 25 -/
mutual
def aircheckref24_Owed.j0 : Nat → Int → Bool → Int → List (S27) → Int → Option (List Int × Int)
 | 0, _, _, _, _, _ => none
 | k + 1, x1, x18, x315000, x315001, x315002 => if x18 = true then (some (([] : List Int), 240)) else (if 0 ≤ x315000 then (if (x315000 : Int).toNat ≤ 35184372088832 then (aircheckref24_Owed.l0 k x1 (List.replicate (x315000 : Int).toNat 0) 0 x315000 x315001 x315002) else (none)) else (none))
def aircheckref24_Owed.l0 : Nat → Int → List Int → Int → Int → List (S27) → Int → Option (List Int × Int)
 | 0, _, _, _, _, _, _ => none
 | k + 1, x1, x6, x7, x315000, x315001, x315002 => if x7 < (x315001.length : Int) then (if 0 ≤ x7 then (if ((rd_T27 x315001 x7).f0) = 3 then (aircheckref24_Owed.j2 k x1 x6 x7 false x315000 x315001 x315002 ((rd_T27 x315001 x7).f0) ((rd_T27 x315001 x7).f1) ((rd_T27 x315001 x7).f2) ((rd_T27 x315001 x7).f3) ((rd_T27 x315001 x7).f4) ((rd_T27 x315001 x7).f5) ((rd_T27 x315001 x7).f6)) else (aircheckref24_Owed.j2 k x1 x6 x7 (((rd_T27 x315001 x7).f5) == x1) x315000 x315001 x315002 ((rd_T27 x315001 x7).f0) ((rd_T27 x315001 x7).f1) ((rd_T27 x315001 x7).f2) ((rd_T27 x315001 x7).f3) ((rd_T27 x315001 x7).f4) ((rd_T27 x315001 x7).f5) ((rd_T27 x315001 x7).f6))) else (none)) else (some (x6, 0))
def aircheckref24_Owed.j2 : Nat → Int → List Int → Int → Bool → Int → List (S27) → Int → Int → Int → Int → Int → Int → Int → Int → Option (List Int × Int)
 | 0, _, _, _, _, _, _, _, _, _, _, _, _, _, _ => none
 | k + 1, x1, x6, x7, x9, x315000, x315001, x315002, x322000, x322001, x322002, x322003, x322004, x322005, x322006 => aircheckref24_Owed.l1 k x1 x6 x7 x9 (wrap64 (x7 + 1)) x315000 x315001 x315002 x322000 x322001 x322002 x322003 x322004 x322005 x322006
def aircheckref24_Owed.l1 : Nat → Int → List Int → Int → Bool → Int → Int → List (S27) → Int → Int → Int → Int → Int → Int → Int → Int → Option (List Int × Int)
 | 0, _, _, _, _, _, _, _, _, _, _, _, _, _, _, _ => none
 | k + 1, x1, x6, x7, x9, x10, x315000, x315001, x315002, x322000, x322001, x322002, x322003, x322004, x322005, x322006 => if x10 < (x315001.length : Int) then (if x9 = true then (if 0 ≤ x10 then (aircheckref24_Owed.l1 k x1 x6 x7 (((rd_T27 x315001 x10).f6) != x7) (wrap64 (x10 + 1)) x315000 x315001 x315002 x322000 x322001 x322002 x322003 x322004 x322005 x322006) else (none)) else (aircheckref24_Owed.l1 k x1 x6 x7 false (wrap64 (x10 + 1)) x315000 x315001 x315002 x322000 x322001 x322002 x322003 x322004 x322005 x322006)) else (if x9 = true then (if 0 ≤ x322003 then (if x322003 < (x6.length : Int) then ((some (x6.set (x322003 : Int).toNat (wrap64 ((rd x6 x322003) + x322004)) : List Int)).bind fun y324 => (if 0 ≤ x322002 then (if x322002 < (x6.length : Int) then (aircheckref24_Owed.l0 k x1 (y324.set (x322002 : Int).toNat (wrap64 ((rd y324 x322002) - x322004))) (wrap64 (x7 + 1)) x315000 x315001 x315002) else (none)) else (none))) else (none)) else (none)) else (aircheckref24_Owed.l0 k x1 x6 (wrap64 (x7 + 1)) x315000 x315001 x315002))
end
def aircheckref24_Owed.f (k : Nat) (a0_0 : Int) (l0_1 : List (S27)) (a0_2 : Int) (a1 : Int) : Option (List Int × Int) := (aircheckref24_Valid.f k a0_0 l0_1 a0_2).bind fun t315 => (if t315 = true then ((aircheckref24_in.f a1 0 999).bind fun t316 => (aircheckref24_Owed.j0 k a1 (!t316) a0_0 l0_1 a0_2)) else (aircheckref24_Owed.j0 k a1 true a0_0 l0_1 a0_2))
def aircheckref24_Owed.T14 : Bool × List (List Nat × List Nat) := (true, [([], []), ([], []), ([1], [1]), ([], []), ([], []), ([4], [4]), ([3, 5], [3, 5]), ([6], [6]), ([], []), ([8], [8]), ([7, 9], [7, 9]), ([0, 2, 0, 1, 2, 3, 4, 5, 6, 7, 8, 9, 10], [0, 2]), ([11, 10, 0, 1, 2, 3, 4, 5, 6, 7, 8, 9, 10], [10, 11])])
def aircheckref24_Owed.B14 : List Nat := [0, 0, 2, 0, 0, 16, 56, 120, 0, 256, 1016, 2047, 4095]
def aircheckref24_Owed.T15 : Bool × List (List Nat × List Nat) := (true, [([], []), ([], []), ([1], [1]), ([], []), ([], []), ([4], [4]), ([3, 5], [3, 5]), ([6], [6]), ([], []), ([8], [8]), ([7, 9], [7, 9]), ([0, 2, 0, 1, 2, 3, 4, 5, 6, 7, 8, 9, 10], [0, 2]), ([11, 10, 0, 1, 2, 3, 4, 5, 6, 7, 8, 9, 10], [10, 11])])
def aircheckref24_Owed.B15 : List Nat := [0, 0, 2, 0, 0, 16, 56, 120, 0, 256, 1016, 2047, 4095]
end Go.Proofs.Ytooogaogbffjfaa.PB
end
section
/-
  The reference's book is ours.
-/
set_option linter.unusedVariables false
set_option linter.unusedSimpArgs false
namespace Go.Proofs.Ytooogaogbffjfaa.Bk
open Go.RowKit Go.Proofs.YtooogaogbffjfaaW.PrintWords Go.Proofs.YtooogaogbffjfaaW.PrintLast Go.Proofs.YtooogaogbffjfaaW.PrintMore Go.Proofs.Ytooogaogbffjfaa.Ext Go.Proofs.Ytooogaogbffjfaa.PB
theorem refDispute_is (k : Nat) (acc clo : Int) (ps : List S27) (i day amount : Int) (hk : 1001 ≤ k) (hn : ps.length ≤ 999990) :
    aircheckref24_Dispute.f k acc ps clo i day amount = some (dispF acc ps clo i day amount) := by
  unfold aircheckref24_Dispute.f
  rw [if_pos hn]
theorem refClose_is (k : Nat) (acc clo : Int) (ps : List S27) (m : Int) (hk : 1000 ≤ k) (hn : ps.length ≤ 1000000) :
    aircheckref24_Close.f k acc ps clo m = some (closeF acc ps clo m) := by
  unfold aircheckref24_Close.f closeF
  rw [refValid_is k acc clo ps hk hn, Option.bind_some]
  cases hv : validB acc ps clo with
  | false => rfl
  | true =>
    rw [if_pos rfl, Bool.true_and]
    by_cases hm : m = clo
    · subst hm
      rw [if_pos rfl, in_is, Option.bind_some, decide_eq_true (show m = m from rfl), Bool.true_and]
      cases hc : decide (0 ≤ m ∧ m ≤ 11) with
      | false => rfl
      | true =>
        have := of_decide_eq_true hc
        rw [if_pos rfl, if_pos rfl, Option.bind_some, if_pos (by simp; omega), List.nil_append, show wrap64 (m + 1) = m + 1 by unfold wrap64; omega]
    · rw [if_neg hm, decide_eq_false hm]; rfl
/-- what a posting does to an account -/
def delta (p : S27) (t : Int) : Int := (if p.f3 = t then p.f4 else 0) - (if p.f2 = t then p.f4 else 0)
def tot (l : List S27) (t : Int) : Int := (l.map fun p => delta p t).sum
theorem tot_snoc (l : List S27) (p : S27) (t : Int) : tot (l ++ [p]) t = tot l t + delta p t := by simp [tot]
theorem sumB_get (l : List S27) (h : ∀ p ∈ l, Book1 p) (t : Nat) (ht : t < 16) : (sumB l).getD t 0 = tot l (t : Int) := by
  generalize hm : l.length = m
  induction m generalizing l with
  | zero =>
    have : l = [] := List.eq_nil_of_length_eq_zero hm
    subst this
    show (List.replicate 16 (0 : Int)).getD t 0 = 0
    rw [List.getD_eq_getElem?_getD, List.getElem?_replicate, if_pos ht]
    rfl
  | succ m ih =>
    rcases List.eq_nil_or_concat l with rfl | ⟨l, p, rfl⟩
    · simp at hm
    · rw [List.concat_eq_append] at *
      have hp := h p (by simp)
      have ih2 := ih l (fun q hq => h q (by simp [hq])) (by simpa using hm)
      unfold Book1 at hp
      have hl := sumB_len l
      rw [sumB_snoc, tot_snoc, ← ih2, addB, delta]
      simp only [List.getD_eq_getElem?_getD, List.getElem?_set, List.length_set, hl]
      by_cases e2 : p.f2.toNat = t
      · rw [if_pos e2, if_pos (by omega), if_pos (show p.f2 = (t : Int) by omega), if_neg (show ¬ p.f3 = (t : Int) by omega), e2]
        simp; omega
      · rw [if_neg e2, if_neg (show ¬ p.f2 = (t : Int) by omega)]
        by_cases e3 : p.f3.toNat = t
        · rw [if_pos e3, if_pos (by omega), if_pos (show p.f3 = (t : Int) by omega), e3]
          simp
        · rw [if_neg e3, if_neg (show ¬ p.f3 = (t : Int) by omega)]
          simp
theorem sumB_range (l : List S27) (h : ∀ p ∈ l, Book1 p) (n : Nat) (hn : n ≤ 16) : (sumB l).take n = (List.range n).map fun t : Nat => tot l (t : Int) := by
  have hl := sumB_len l
  apply List.ext_getElem?
  intro i
  by_cases hi : i < n
  · rw [List.getElem?_take_of_lt hi, List.getElem?_map, List.getElem?_range hi]
    have := sumB_get l h i (by omega)
    rw [List.getD_eq_getElem?_getD, List.getElem?_eq_getElem (show i < (sumB l).length by omega)] at this
    rw [List.getElem?_eq_getElem (show i < (sumB l).length by omega)]
    simpa using this
  · rw [List.getElem?_eq_none (by rw [List.length_take]; omega), List.getElem?_eq_none (by simp; omega)]
theorem rd_mem (ps : List S27) (i : Nat) (h : i < ps.length) : rd_T27 ps (i : Int) ∈ ps := by
  unfold rd_T27
  rw [Int.toNat_natCast, List.getD_eq_getElem?_getD, List.getElem?_eq_getElem h]
  exact List.getElem_mem h
def owTail (r : Nat) (s : Int) (out : List Int) (i : Int) (st : Bool) (acc clo : Int) (ps : List S27) (p : S27) : Option (List Int × Int) :=
  if st = true then (if 0 ≤ p.f3 then (if p.f3 < (out.length : Int) then (if 0 ≤ p.f2 then (if p.f2 < (out.length : Int) then (aircheckref24_Owed.l0 r s ((out.set p.f3.toNat (wrap64 ((rd out p.f3) + p.f4))).set p.f2.toNat (wrap64 ((rd (out.set p.f3.toNat (wrap64 ((rd out p.f3) + p.f4))) p.f2) - p.f4))) (wrap64 (i + 1)) acc ps clo) else none) else none) else none) else none) else aircheckref24_Owed.l0 r s out (wrap64 (i + 1)) acc ps clo
end Go.Proofs.Ytooogaogbffjfaa.Bk
end
section
-- Written by a program of this session out of the translation's print; not trusted: checked by the kernel.
namespace Go.Proofs.Ytooogaogbffjfaa.PB
open Go.Proofs.Ytooogaogbffjfaa.Ext
open Go.RowKit Go.Proofs.YtooogaogbffjfaaW.PrintWords Go.Proofs.YtooogaogbffjfaaW.PrintLast Go.Proofs.YtooogaogbffjfaaW.PrintMore
attribute [local go_sem] max2_int min2_int max_two min_two max_three min_three max_four min_four   -- for this text's walks alone
set_option linter.unusedVariables false
set_option linter.unusedSimpArgs false
/-! ### aircheckref24_pick: function 27 -/
def aircheckref24_pick.f (a0 : Int) (a1 : Int) : Option (Int) := if a0 < 0 then (if a1 = 0 then (none) else (some (Int.tmod (wrap64 (-(wrap64 (a0 + 1)))) a1))) else (if a1 = 0 then (none) else (some (Int.tmod a0 a1)))
set_option maxHeartbeats 8000000 in
set_option maxRecDepth 100000 in
theorem aircheckref24_pick.calls (a0 : Int) (a1 : Int) (r : Int) (w : World) (h : aircheckref24_pick.f a0 a1 = some r) :
  Calls Try.prog 27 #[.int .i64 a0, .int .i64 a1] w fun e w' => e = .returned (.int .i64 r) ∧ Drawn0 w w' := by
 have H : (if a0 < 0 then (if a1 = 0 then (none) else (some (Int.tmod (wrap64 (-(wrap64 (a0 + 1)))) a1))) else (if a1 = 0 then (none) else (some (Int.tmod a0 a1)))) = some r := h
 clear h
 by_cases c3 : a0 < 0
 ·rw [if_pos c3] at H
  have c3b0 : decide (a0 < 0) = true := decide_eq_true c3
  clear c3
  by_cases c4 : a1 = 0
  ·rw [if_pos c4] at H
   exact absurd H (by simp)
  ·rw [if_neg c4] at H
   have c4b0 : (a1 == 0) = false := beq_eq_false_iff_ne.mpr c4
   have c4b1 : (a1 != 0) = true := bne_iff_ne.mpr c4
   obtain rfl := Option.some.inj H
   go_enter Try.func27, Try.ntmps27
   go_wp2
   go_ret
   exact ⟨by first | rfl | (simp; done) | (simp [*]; done), by repeat (first | exact Drawn0.refl _ | apply Drawn0.step)⟩
 ·rw [if_neg c3] at H
  have c3b0 : decide (a0 < 0) = false := decide_eq_false c3
  clear c3
  by_cases c5 : a1 = 0
  ·rw [if_pos c5] at H
   exact absurd H (by simp)
  ·rw [if_neg c5] at H
   have c5b0 : (a1 == 0) = false := beq_eq_false_iff_ne.mpr c5
   have c5b1 : (a1 != 0) = true := bne_iff_ne.mpr c5
   obtain rfl := Option.some.inj H
   go_enter Try.func27, Try.ntmps27
   go_wp2
   go_ret
   exact ⟨by first | rfl | (simp; done) | (simp [*]; done), by repeat (first | exact Drawn0.refl _ | apply Drawn0.step)⟩
end Go.Proofs.Ytooogaogbffjfaa.PB
end
