import Derived.Test.YtooogaogbffjfaaMBookDisputesal
import Derived.Test.YtooogaogbffjfaaMBookDisputesao
import Derived.Test.YtooogaogbffjfaaMBookDisputesaq
import Derived.Test.YtooogaogbffjfaaMBookDisputesar
/-
  Texts of this claim, one behind the other: what they prove stands above each.
-/
section
-- Written by a program of this session out of the translation's print; not trusted: checked by the kernel.
namespace Go.Proofs.Ytooogaogbffjfaa.PB
open Go.Proofs.Ytooogaogbffjfaa.Ext
open Go.RowKit Go.Proofs.YtooogaogbffjfaaW.PrintWords Go.Proofs.YtooogaogbffjfaaW.PrintLast Go.Proofs.YtooogaogbffjfaaW.PrintMore
attribute [local go_sem] max2_int min2_int max_two min_two max_three min_three max_four min_four   -- for this text's walks alone
set_option linter.unusedVariables false
set_option linter.unusedSimpArgs false
/-! ### book_Balance: function 21 -/
def book_Balance.f (a0_0 : Int) (l0_1 : List (S27)) (a0_2 : Int) (a1 : Int) (a2 : Int) : Option (Int × Int) := (book_Statement.f a0_0 l0_1 a0_2 a2).bind fun bt102 => (if bt102.2 = 0 then (if a1 < 0 then (some (0, 240)) else (if a1 ≥ (bt102.1.length : Int) then (some (0, 240)) else (if 0 ≤ a1 then (if a1 < (bt102.1.length : Int) then (some (rd bt102.1 a1, 0)) else (none)) else (none)))) else (some (0, 240)))
set_option maxHeartbeats 8000000 in
set_option maxRecDepth 100000 in
theorem book_Balance.calls (a0_0 : Int) (A0_1 : Option Addr) (c0_1 : Nat) (l0_1 : List (S27)) (a0_2 : Int) (a1 : Int) (a2 : Int) (r1 : Int) (r2 : Int) (w : World) (hr0_1 : Kd.C k27 w A0_1 l0_1.length l0_1) (hc0_1 : l0_1.length ≤ c0_1) (h : book_Balance.f a0_0 l0_1 a0_2 a1 a2 = some (r1, r2)) :
  Calls Try.prog 21 #[.agg #[.int .i64 a0_0, .slice A0_1 l0_1.length c0_1, .int .i64 a0_2], .int .i64 a1, .int .i64 a2] w fun e w' => e = .returned (.tuple #[.int .i64 r1, .int .i64 r2]) ∧ Below w.heap.size w w' := by
 have hu24 := Try.underlying24
 have HR0_1 := Aside0.mk hr0_1
 have HC0_1 := Aside0.mk hc0_1
 clear hr0_1 hc0_1
 have HB := Aside0.mk (Below.refl w.heap.size w)
 have H : ((book_Statement.f a0_0 l0_1 a0_2 a2).bind fun bt102 => (if bt102.2 = 0 then (if a1 < 0 then (some (0, 240)) else (if a1 ≥ (bt102.1.length : Int) then (some (0, 240)) else (if 0 ≤ a1 then (if a1 < (bt102.1.length : Int) then (some (rd bt102.1 a1, 0)) else (none)) else (none)))) else (some (0, 240)))) = some (r1, r2) := h
 clear h
 replace H := Option.bind_eq_some_iff.mp H
 obtain ⟨⟨t102, t105⟩, A40, H⟩ := H
 replace H : (if t105 = 0 then (if a1 < 0 then (some (0, 240)) else (if a1 ≥ (t102.length : Int) then (some (0, 240)) else (if 0 ≤ a1 then (if a1 < (t102.length : Int) then (some (rd t102 a1, 0)) else (none)) else (none)))) else (some (0, 240))) = some (r1, r2) := H
 have A4 := Aside0.mk A40
 clear A40
 by_cases c5 : t105 = 0
 ·rw [if_pos c5] at H
  have c5b0 : (t105 == 0) = true := beq_iff_eq.mpr c5
  have c5b1 : (t105 != 0) = false := bne_eq_false_iff_eq.mpr c5
  clear c5
  by_cases c6 : a1 < 0
  ·rw [if_pos c6] at H
   have c6b0 : decide (a1 < 0) = true := decide_eq_true c6
   clear c6
   simp only [Option.some.injEq, Prod.mk.injEq] at H
   obtain ⟨rfl, rfl⟩ := H
   go_enter Try.func21, Try.ntmps21
   go_wp2_with (first | ((with_reducible refine gate_dst (N := 3) rfl ?_); (try (refine gate_guard (by rfl) ?_; dsimp only)); refine box_event ?hg (N := 3) ?hd (cs := #[.int .i64 a0_0, .slice A0_1 l0_1.length c0_1, .int .i64 a0_2]) (t := 24) ?hr ?_; (case hd => rfl); (case hg => rfl); (case hr => first | (go_simp; done) | (go_simp; rfl)); intro gb101 hg w7 hbox hb; have n0_ := Aside0.mk (below_step (by repeat (first | (with_reducible first | exact HB.out | apply below_alloc | apply pw_below_drewN | apply below_drew1) | exact HB.out)) hb); have n1_ := Aside0.mk (hbox); have n2_ := Aside0.mk ((by rw [hg]; exact (below_size (by repeat (first | (with_reducible first | exact HB.out | apply below_alloc | apply pw_below_drewN | apply below_drew1) | exact HB.out))) : w.heap.size ≤ gb101)); have n3_ := Aside0.mk ((by rw [hg]; exact (below_size (by repeat (first | (with_reducible first | exact HB.out | apply below_alloc | apply pw_below_drewN | apply below_drew1) | exact HB.out))) : w.heap.size ≤ gb101)); clear HB; have HB := n0_; have BK101 := n1_; have GW101 := n2_; have GE101 := n3_; clear n0_ n1_ n2_ n3_; clear hb hbox hg; have hcz8_0 : w7.cell? ⟨gb101, 0, none⟩ = some (.int .i64 a0_0) := (blk_cell BK101.out 0).trans rfl; have hcz8_1 : w7.cell? ⟨gb101, 1, none⟩ = some (.slice A0_1 l0_1.length c0_1) := (blk_cell BK101.out 1).trans rfl; have hcz8_2 : w7.cell? ⟨gb101, 2, none⟩ = some (.int .i64 a0_2) := (blk_cell BK101.out 2).trans rfl; have hfz8_0 := blk_frozen BK101.out 0; have hfz8_1 := blk_frozen BK101.out 1; have hfz8_2 := blk_frozen BK101.out 2) | ((with_reducible refine gate_callee (f := 19) rfl ?_); refine goesL_ (some 13) rfl rfl Try.func19 (by kernel_rfl) rfl #[.agg #[.int .i64 a0_0, .slice A0_1 l0_1.length c0_1, .int .i64 a0_2], .int .i64 a2] rfl (by (try simp only [List.map_toArray, List.map_cons, List.map_nil]); first | done | rfl | (simp only [List.length_drop, List.length_take]; rfl)) ?_; (with_reducible refine (book_Statement.calls a0_0 _ _ l0_1 a0_2 a2 t102 t105 _ ?side1 ?side2 A4.out).mono ?_); (case side1 => repeat (first | exact (Kd.C_below HR0_1.out HB.out) | (with_reducible refine Kd.C_alloc ?_ _) | (with_reducible refine Kd.C_drewN ?_ _) | (with_reducible refine Kd.C_drew ?_))); (case side2 => exact HC0_1.out); rintro e w9 ⟨v103, rfl, ho0, hb⟩; refine ⟨_, rfl, ?_⟩; have n0_ := Aside0.mk (Kd.R_lower ho0 (below_size (by repeat (first | (with_reducible first | exact HB.out | apply below_alloc | apply pw_below_drewN | apply below_drew1 | refine below_set ?_ GE101.out) | exact HB.out)))); have n1_ := Aside0.mk (blk_below (g := gb101) (o := .cells #[.int .i64 a0_0, .slice A0_1 l0_1.length c0_1, .int .i64 a0_2] 24 (0, 0)) (by (with_reducible repeat (first | refine blk_drewN ?_ _ | refine blk_drew ?_ | refine blk_alloc ?_ _)); exact BK101.out) hb); have n2_ := Aside0.mk (below_step (by repeat (first | (with_reducible first | exact HB.out | apply below_alloc | apply pw_below_drewN | apply below_drew1 | refine below_set ?_ GE101.out) | exact HB.out)) hb); clear BK101; clear HB; have HO104 := n0_; have BK101 := n1_; have HB := n2_; clear n0_ n1_ n2_; (try clear hb); (try clear hb2); (try clear hk); (try clear hi); (try clear ho0)))
   go_ret2
   exact ⟨by first | rfl | (simp [errW_none, errW_some] <;> rfl) | (simp [*, errW_none, errW_some] <;> rfl), by repeat (first | (with_reducible first | exact HB.out | apply below_alloc | apply pw_below_drewN | apply below_drew1 | refine below_set ?_ GE101.out) | exact HB.out)⟩
  ·rw [if_neg c6] at H
   have c6b0 : decide (a1 < 0) = false := decide_eq_false c6
   clear c6
   by_cases c10 : a1 ≥ (t102.length : Int)
   ·rw [if_pos c10] at H
    have c10b0 : decide ((t102.length : Int) ≤ a1) = true := decide_eq_true c10
    clear c10
    simp only [Option.some.injEq, Prod.mk.injEq] at H
    obtain ⟨rfl, rfl⟩ := H
    go_enter Try.func21, Try.ntmps21
    go_wp2_with (first | ((with_reducible refine gate_dst (N := 3) rfl ?_); (try (refine gate_guard (by rfl) ?_; dsimp only)); refine box_event ?hg (N := 3) ?hd (cs := #[.int .i64 a0_0, .slice A0_1 l0_1.length c0_1, .int .i64 a0_2]) (t := 24) ?hr ?_; (case hd => rfl); (case hg => rfl); (case hr => first | (go_simp; done) | (go_simp; rfl)); intro gb101 hg w11 hbox hb; have n0_ := Aside0.mk (below_step (by repeat (first | (with_reducible first | exact HB.out | apply below_alloc | apply pw_below_drewN | apply below_drew1) | exact HB.out)) hb); have n1_ := Aside0.mk (hbox); have n2_ := Aside0.mk ((by rw [hg]; exact (below_size (by repeat (first | (with_reducible first | exact HB.out | apply below_alloc | apply pw_below_drewN | apply below_drew1) | exact HB.out))) : w.heap.size ≤ gb101)); have n3_ := Aside0.mk ((by rw [hg]; exact (below_size (by repeat (first | (with_reducible first | exact HB.out | apply below_alloc | apply pw_below_drewN | apply below_drew1) | exact HB.out))) : w.heap.size ≤ gb101)); clear HB; have HB := n0_; have BK101 := n1_; have GW101 := n2_; have GE101 := n3_; clear n0_ n1_ n2_ n3_; clear hb hbox hg; have hcz12_0 : w11.cell? ⟨gb101, 0, none⟩ = some (.int .i64 a0_0) := (blk_cell BK101.out 0).trans rfl; have hcz12_1 : w11.cell? ⟨gb101, 1, none⟩ = some (.slice A0_1 l0_1.length c0_1) := (blk_cell BK101.out 1).trans rfl; have hcz12_2 : w11.cell? ⟨gb101, 2, none⟩ = some (.int .i64 a0_2) := (blk_cell BK101.out 2).trans rfl; have hfz12_0 := blk_frozen BK101.out 0; have hfz12_1 := blk_frozen BK101.out 1; have hfz12_2 := blk_frozen BK101.out 2) | ((with_reducible refine gate_callee (f := 19) rfl ?_); refine goesL_ (some 13) rfl rfl Try.func19 (by kernel_rfl) rfl #[.agg #[.int .i64 a0_0, .slice A0_1 l0_1.length c0_1, .int .i64 a0_2], .int .i64 a2] rfl (by (try simp only [List.map_toArray, List.map_cons, List.map_nil]); first | done | rfl | (simp only [List.length_drop, List.length_take]; rfl)) ?_; (with_reducible refine (book_Statement.calls a0_0 _ _ l0_1 a0_2 a2 t102 t105 _ ?side1 ?side2 A4.out).mono ?_); (case side1 => repeat (first | exact (Kd.C_below HR0_1.out HB.out) | (with_reducible refine Kd.C_alloc ?_ _) | (with_reducible refine Kd.C_drewN ?_ _) | (with_reducible refine Kd.C_drew ?_))); (case side2 => exact HC0_1.out); rintro e w13 ⟨v103, rfl, ho0, hb⟩; refine ⟨_, rfl, ?_⟩; have n0_ := Aside0.mk (Kd.R_lower ho0 (below_size (by repeat (first | (with_reducible first | exact HB.out | apply below_alloc | apply pw_below_drewN | apply below_drew1 | refine below_set ?_ GE101.out) | exact HB.out)))); have n1_ := Aside0.mk (blk_below (g := gb101) (o := .cells #[.int .i64 a0_0, .slice A0_1 l0_1.length c0_1, .int .i64 a0_2] 24 (0, 0)) (by (with_reducible repeat (first | refine blk_drewN ?_ _ | refine blk_drew ?_ | refine blk_alloc ?_ _)); exact BK101.out) hb); have n2_ := Aside0.mk (below_step (by repeat (first | (with_reducible first | exact HB.out | apply below_alloc | apply pw_below_drewN | apply below_drew1 | refine below_set ?_ GE101.out) | exact HB.out)) hb); clear BK101; clear HB; have HO104 := n0_; have BK101 := n1_; have HB := n2_; clear n0_ n1_ n2_; (try clear hb); (try clear hb2); (try clear hk); (try clear hi); (try clear ho0); obtain ⟨Ao14, co14, eo14⟩ := Kd.R_slice HO104.out; subst eo14))
    go_ret2
    exact ⟨by first | rfl | (simp [errW_none, errW_some] <;> rfl) | (simp [*, errW_none, errW_some] <;> rfl), by repeat (first | (with_reducible first | exact HB.out | apply below_alloc | apply pw_below_drewN | apply below_drew1 | refine below_set ?_ GE101.out) | exact HB.out)⟩
   ·rw [if_neg c10] at H
    have c10b0 : decide ((t102.length : Int) ≤ a1) = false := decide_eq_false c10
    clear c10
    by_cases c15 : 0 ≤ a1
    ·rw [if_pos c15] at H
     have c15b0 : decide (0 ≤ a1) = true := decide_eq_true c15
     clear c15
     by_cases c16 : a1 < (t102.length : Int)
     ·rw [if_pos c16] at H
      have c16b0 : decide (a1 < (t102.length : Int)) = true := decide_eq_true c16
      clear c16
      simp only [Option.some.injEq, Prod.mk.injEq] at H
      obtain ⟨rfl, rfl⟩ := H
      go_enter Try.func21, Try.ntmps21
      go_wp2_with (first | ((with_reducible refine gate_dst (N := 3) rfl ?_); (try (refine gate_guard (by rfl) ?_; dsimp only)); refine box_event ?hg (N := 3) ?hd (cs := #[.int .i64 a0_0, .slice A0_1 l0_1.length c0_1, .int .i64 a0_2]) (t := 24) ?hr ?_; (case hd => rfl); (case hg => rfl); (case hr => first | (go_simp; done) | (go_simp; rfl)); intro gb101 hg w17 hbox hb; have n0_ := Aside0.mk (below_step (by repeat (first | (with_reducible first | exact HB.out | apply below_alloc | apply pw_below_drewN | apply below_drew1) | exact HB.out)) hb); have n1_ := Aside0.mk (hbox); have n2_ := Aside0.mk ((by rw [hg]; exact (below_size (by repeat (first | (with_reducible first | exact HB.out | apply below_alloc | apply pw_below_drewN | apply below_drew1) | exact HB.out))) : w.heap.size ≤ gb101)); have n3_ := Aside0.mk ((by rw [hg]; exact (below_size (by repeat (first | (with_reducible first | exact HB.out | apply below_alloc | apply pw_below_drewN | apply below_drew1) | exact HB.out))) : w.heap.size ≤ gb101)); clear HB; have HB := n0_; have BK101 := n1_; have GW101 := n2_; have GE101 := n3_; clear n0_ n1_ n2_ n3_; clear hb hbox hg; have hcz18_0 : w17.cell? ⟨gb101, 0, none⟩ = some (.int .i64 a0_0) := (blk_cell BK101.out 0).trans rfl; have hcz18_1 : w17.cell? ⟨gb101, 1, none⟩ = some (.slice A0_1 l0_1.length c0_1) := (blk_cell BK101.out 1).trans rfl; have hcz18_2 : w17.cell? ⟨gb101, 2, none⟩ = some (.int .i64 a0_2) := (blk_cell BK101.out 2).trans rfl; have hfz18_0 := blk_frozen BK101.out 0; have hfz18_1 := blk_frozen BK101.out 1; have hfz18_2 := blk_frozen BK101.out 2) | ((with_reducible refine gate_callee (f := 19) rfl ?_); refine goesL_ (some 13) rfl rfl Try.func19 (by kernel_rfl) rfl #[.agg #[.int .i64 a0_0, .slice A0_1 l0_1.length c0_1, .int .i64 a0_2], .int .i64 a2] rfl (by (try simp only [List.map_toArray, List.map_cons, List.map_nil]); first | done | rfl | (simp only [List.length_drop, List.length_take]; rfl)) ?_; (with_reducible refine (book_Statement.calls a0_0 _ _ l0_1 a0_2 a2 t102 t105 _ ?side1 ?side2 A4.out).mono ?_); (case side1 => repeat (first | exact (Kd.C_below HR0_1.out HB.out) | (with_reducible refine Kd.C_alloc ?_ _) | (with_reducible refine Kd.C_drewN ?_ _) | (with_reducible refine Kd.C_drew ?_))); (case side2 => exact HC0_1.out); rintro e w19 ⟨v103, rfl, ho0, hb⟩; refine ⟨_, rfl, ?_⟩; have n0_ := Aside0.mk (Kd.R_lower ho0 (below_size (by repeat (first | (with_reducible first | exact HB.out | apply below_alloc | apply pw_below_drewN | apply below_drew1 | refine below_set ?_ GE101.out) | exact HB.out)))); have n1_ := Aside0.mk (blk_below (g := gb101) (o := .cells #[.int .i64 a0_0, .slice A0_1 l0_1.length c0_1, .int .i64 a0_2] 24 (0, 0)) (by (with_reducible repeat (first | refine blk_drewN ?_ _ | refine blk_drew ?_ | refine blk_alloc ?_ _)); exact BK101.out) hb); have n2_ := Aside0.mk (below_step (by repeat (first | (with_reducible first | exact HB.out | apply below_alloc | apply pw_below_drewN | apply below_drew1 | refine below_set ?_ GE101.out) | exact HB.out)) hb); clear BK101; clear HB; have HO104 := n0_; have BK101 := n1_; have HB := n2_; clear n0_ n1_ n2_; (try clear hb); (try clear hb2); (try clear hk); (try clear hi); (try clear ho0); obtain ⟨Ao20, co20, eo20⟩ := Kd.R_slice HO104.out; subst eo20; have p106 : 0 ≤ (a1 : Int) := of_decide_eq_true (by first | (with_reducible assumption) | assumption); have q106 : a1 < (t102.length : Int) := of_decide_eq_true (by first | (with_reducible assumption) | assumption); obtain ⟨ad106, e106, hx106_0⟩ := Kd.at_int (Kd.R_reads' HO104.out).2.2 a1 p106 q106; cases e106; replace p106 := eq_true p106; replace q106 := eq_true q106))
      go_ret2
      exact ⟨by first | rfl | (simp [errW_none, errW_some] <;> rfl) | (simp [*, errW_none, errW_some] <;> rfl), by repeat (first | (with_reducible first | exact HB.out | apply below_alloc | apply pw_below_drewN | apply below_drew1 | refine below_set ?_ GE101.out) | exact HB.out)⟩
     ·rw [if_neg c16] at H
      exact absurd H (by simp)
    ·rw [if_neg c15] at H
     exact absurd H (by simp)
 ·rw [if_neg c5] at H
  have c5b0 : (t105 == 0) = false := beq_eq_false_iff_ne.mpr c5
  have c5b1 : (t105 != 0) = true := bne_iff_ne.mpr c5
  simp only [Option.some.injEq, Prod.mk.injEq] at H
  obtain ⟨rfl, rfl⟩ := H
  go_enter Try.func21, Try.ntmps21
  go_wp2_with (first | ((with_reducible refine gate_dst (N := 3) rfl ?_); (try (refine gate_guard (by rfl) ?_; dsimp only)); refine box_event ?hg (N := 3) ?hd (cs := #[.int .i64 a0_0, .slice A0_1 l0_1.length c0_1, .int .i64 a0_2]) (t := 24) ?hr ?_; (case hd => rfl); (case hg => rfl); (case hr => first | (go_simp; done) | (go_simp; rfl)); intro gb101 hg w21 hbox hb; have n0_ := Aside0.mk (below_step (by repeat (first | (with_reducible first | exact HB.out | apply below_alloc | apply pw_below_drewN | apply below_drew1) | exact HB.out)) hb); have n1_ := Aside0.mk (hbox); have n2_ := Aside0.mk ((by rw [hg]; exact (below_size (by repeat (first | (with_reducible first | exact HB.out | apply below_alloc | apply pw_below_drewN | apply below_drew1) | exact HB.out))) : w.heap.size ≤ gb101)); have n3_ := Aside0.mk ((by rw [hg]; exact (below_size (by repeat (first | (with_reducible first | exact HB.out | apply below_alloc | apply pw_below_drewN | apply below_drew1) | exact HB.out))) : w.heap.size ≤ gb101)); clear HB; have HB := n0_; have BK101 := n1_; have GW101 := n2_; have GE101 := n3_; clear n0_ n1_ n2_ n3_; clear hb hbox hg; have hcz22_0 : w21.cell? ⟨gb101, 0, none⟩ = some (.int .i64 a0_0) := (blk_cell BK101.out 0).trans rfl; have hcz22_1 : w21.cell? ⟨gb101, 1, none⟩ = some (.slice A0_1 l0_1.length c0_1) := (blk_cell BK101.out 1).trans rfl; have hcz22_2 : w21.cell? ⟨gb101, 2, none⟩ = some (.int .i64 a0_2) := (blk_cell BK101.out 2).trans rfl; have hfz22_0 := blk_frozen BK101.out 0; have hfz22_1 := blk_frozen BK101.out 1; have hfz22_2 := blk_frozen BK101.out 2) | ((with_reducible refine gate_callee (f := 19) rfl ?_); refine goesL_ (some 13) rfl rfl Try.func19 (by kernel_rfl) rfl #[.agg #[.int .i64 a0_0, .slice A0_1 l0_1.length c0_1, .int .i64 a0_2], .int .i64 a2] rfl (by (try simp only [List.map_toArray, List.map_cons, List.map_nil]); first | done | rfl | (simp only [List.length_drop, List.length_take]; rfl)) ?_; (with_reducible refine (book_Statement.calls a0_0 _ _ l0_1 a0_2 a2 t102 t105 _ ?side1 ?side2 A4.out).mono ?_); (case side1 => repeat (first | exact (Kd.C_below HR0_1.out HB.out) | (with_reducible refine Kd.C_alloc ?_ _) | (with_reducible refine Kd.C_drewN ?_ _) | (with_reducible refine Kd.C_drew ?_))); (case side2 => exact HC0_1.out); rintro e w23 ⟨v103, rfl, ho0, hb⟩; refine ⟨_, rfl, ?_⟩; have n0_ := Aside0.mk (Kd.R_lower ho0 (below_size (by repeat (first | (with_reducible first | exact HB.out | apply below_alloc | apply pw_below_drewN | apply below_drew1 | refine below_set ?_ GE101.out) | exact HB.out)))); have n1_ := Aside0.mk (blk_below (g := gb101) (o := .cells #[.int .i64 a0_0, .slice A0_1 l0_1.length c0_1, .int .i64 a0_2] 24 (0, 0)) (by (with_reducible repeat (first | refine blk_drewN ?_ _ | refine blk_drew ?_ | refine blk_alloc ?_ _)); exact BK101.out) hb); have n2_ := Aside0.mk (below_step (by repeat (first | (with_reducible first | exact HB.out | apply below_alloc | apply pw_below_drewN | apply below_drew1 | refine below_set ?_ GE101.out) | exact HB.out)) hb); clear BK101; clear HB; have HO104 := n0_; have BK101 := n1_; have HB := n2_; clear n0_ n1_ n2_; (try clear hb); (try clear hb2); (try clear hk); (try clear hi); (try clear ho0)))
  go_ret2
  exact ⟨by first | rfl | (simp [errW_none, errW_some] <;> rfl) | (simp [*, errW_none, errW_some] <;> rfl), by repeat (first | (with_reducible first | exact HB.out | apply below_alloc | apply pw_below_drewN | apply below_drew1 | refine below_set ?_ GE101.out) | exact HB.out)⟩
end Go.Proofs.Ytooogaogbffjfaa.PB
end
section
-- Written by a program of this session out of the translation's print; not trusted: checked by the kernel.
namespace Go.Proofs.Ytooogaogbffjfaa.PB
open Go.Proofs.Ytooogaogbffjfaa.Ext
open Go.RowKit Go.Proofs.YtooogaogbffjfaaW.PrintWords Go.Proofs.YtooogaogbffjfaaW.PrintLast Go.Proofs.YtooogaogbffjfaaW.PrintMore
attribute [local go_sem] max2_int min2_int max_two min_two max_three min_three max_four min_four   -- for this text's walks alone
set_option linter.unusedVariables false
set_option linter.unusedSimpArgs false
/-! ### aircheckref24_Balance: function 22 -/
mutual
def aircheckref24_Balance.j0 : Nat → Int → Int → Bool → Int → List (S27) → Int → Option (Int × Int)
 | 0, _, _, _, _, _, _ => none
 | k + 1, x1, x2, x26, x302000, x302001, x302002 => if x26 = true then (some (0, 240)) else (aircheckref24_Balance.l0 k x1 x2 0 0 x302000 x302001 x302002)
def aircheckref24_Balance.l0 : Nat → Int → Int → Int → Int → Int → List (S27) → Int → Option (Int × Int)
 | 0, _, _, _, _, _, _, _ => none
 | k + 1, x1, x2, x8, x9, x302000, x302001, x302002 => if x9 < (x302001.length : Int) then (if 0 ≤ x9 then (if (wrap64 (Int.tdiv ((rd_T27 x302001 x9).f1) 30)) = x2 then (if ((rd_T27 x302001 x9).f3) = x1 then (if ((rd_T27 x302001 x9).f2) = x1 then (aircheckref24_Balance.l0 k x1 x2 (wrap64 ((wrap64 (x8 + ((rd_T27 x302001 x9).f4))) - ((rd_T27 x302001 x9).f4))) (wrap64 (x9 + 1)) x302000 x302001 x302002) else (aircheckref24_Balance.l0 k x1 x2 (wrap64 (x8 + ((rd_T27 x302001 x9).f4))) (wrap64 (x9 + 1)) x302000 x302001 x302002)) else (if ((rd_T27 x302001 x9).f2) = x1 then (aircheckref24_Balance.l0 k x1 x2 (wrap64 (x8 - ((rd_T27 x302001 x9).f4))) (wrap64 (x9 + 1)) x302000 x302001 x302002) else (aircheckref24_Balance.l0 k x1 x2 x8 (wrap64 (x9 + 1)) x302000 x302001 x302002))) else (aircheckref24_Balance.l0 k x1 x2 x8 (wrap64 (x9 + 1)) x302000 x302001 x302002)) else (none)) else (some (x8, 0))
end
def aircheckref24_Balance.f (k : Nat) (a0_0 : Int) (l0_1 : List (S27)) (a0_2 : Int) (a1 : Int) (a2 : Int) : Option (Int × Int) := (aircheckref24_Valid.f k a0_0 l0_1 a0_2).bind fun t302 => (if t302 = true then ((aircheckref24_in.f a1 0 (wrap64 (a0_0 - 1))).bind fun t303 => (if t303 = true then ((aircheckref24_in.f a2 0 11).bind fun t304 => (aircheckref24_Balance.j0 k a1 a2 (!t304) a0_0 l0_1 a0_2)) else (aircheckref24_Balance.j0 k a1 a2 true a0_0 l0_1 a0_2))) else (aircheckref24_Balance.j0 k a1 a2 true a0_0 l0_1 a0_2))
end Go.Proofs.Ytooogaogbffjfaa.PB
end
section
-- Written by a program of this session out of the translation's print; not trusted: checked by the kernel.
namespace Go.Proofs.Ytooogaogbffjfaa.PB
open Go.Proofs.Ytooogaogbffjfaa.Ext
open Go.RowKit Go.Proofs.YtooogaogbffjfaaW.PrintWords Go.Proofs.YtooogaogbffjfaaW.PrintLast Go.Proofs.YtooogaogbffjfaaW.PrintMore
attribute [local go_sem] max2_int min2_int max_two min_two max_three min_three max_four min_four   -- for this text's walks alone
set_option linter.unusedVariables false
set_option linter.unusedSimpArgs false
/-! ### aircheckref24_Statement: function 20 -/
def aircheckref24_Statement.l0 : Nat → Int → List Int → Int → Int → List (S27) → Int → Option (List Int × Int)
 | 0, _, _, _, _, _, _ => none
 | k + 1, x1, x6, x7, x308000, x308001, x308002 => if x7 < x308000 then ((aircheckref24_Balance.f k x308000 x308001 x308002 x7 x1).bind fun bt309 => (if bt309.2 = 0 then (if x6.length < 17592186044416 then (aircheckref24_Statement.l0 k x1 (x6 ++ [bt309.1]) (wrap64 (x7 + 1)) x308000 x308001 x308002) else (none)) else (some (([] : List Int), bt309.2)))) else (some (x6, 0))
def aircheckref24_Statement.f (k : Nat) (a0_0 : Int) (l0_1 : List (S27)) (a0_2 : Int) (a1 : Int) : Option (List Int × Int) := (aircheckref24_Valid.f k a0_0 l0_1 a0_2).bind fun t308 => (if t308 = true then (aircheckref24_Statement.l0 k a1 ([] : List Int) 0 a0_0 l0_1 a0_2) else (some (([] : List Int), 240)))
end Go.Proofs.Ytooogaogbffjfaa.PB
end
section
-- Written by a program of this session out of the translation's print; not trusted: checked by the kernel.
namespace Go.Proofs.Ytooogaogbffjfaa.PB
open Go.Proofs.Ytooogaogbffjfaa.Ext
open Go.RowKit Go.Proofs.YtooogaogbffjfaaW.PrintWords Go.Proofs.YtooogaogbffjfaaW.PrintLast Go.Proofs.YtooogaogbffjfaaW.PrintMore
attribute [local go_sem] max2_int min2_int max_two min_two max_three min_three max_four min_four   -- for this text's walks alone
set_option linter.unusedVariables false
set_option linter.unusedSimpArgs false
/-! ### aircheckref24_Owed: function 25 -/
mutual
def aircheckref24_Owed.j0 : Nat → Int → Bool → Int → List (S27) → Int → Option (List Int × Int)
 | 0, _, _, _, _, _ => none
 | k + 1, x1, x18, x315000, x315001, x315002 => if x18 = true then (some (([] : List Int), 240)) else (if 0 ≤ x315000 then (if (x315000 : Int).toNat ≤ 35184372088832 then (aircheckref24_Owed.l0 k x1 (List.replicate (x315000 : Int).toNat 0) 0 x315000 x315001 x315002) else (none)) else (none))
def aircheckref24_Owed.l0 : Nat → Int → List Int → Int → Int → List (S27) → Int → Option (List Int × Int)
 | 0, _, _, _, _, _, _ => none
 | k + 1, x1, x6, x7, x315000, x315001, x315002 => if x7 < (x315001.length : Int) then (if 0 ≤ x7 then (if ((rd_T27 x315001 x7).f0) = 3 then (aircheckref24_Owed.j2 k x1 x6 x7 false x315000 x315001 x315002 ((rd_T27 x315001 x7).f0) ((rd_T27 x315001 x7).f1) ((rd_T27 x315001 x7).f2) ((rd_T27 x315001 x7).f3) ((rd_T27 x315001 x7).f4) ((rd_T27 x315001 x7).f5) ((rd_T27 x315001 x7).f6)) else (aircheckref24_Owed.j2 k x1 x6 x7 (((rd_T27 x315001 x7).f5) == x1) x315000 x315001 x315002 ((rd_T27 x315001 x7).f0) ((rd_T27 x315001 x7).f1) ((rd_T27 x315001 x7).f2) ((rd_T27 x315001 x7).f3) ((rd_T27 x315001 x7).f4) ((rd_T27 x315001 x7).f5) ((rd_T27 x315001 x7).f6))) else (none)) else (some (x6, 0))
def aircheckref24_Owed.j2 : Nat → Int → List Int → Int → Bool → Int → List (S27) → Int → Int → Int → Int → Int → Int → Int → Int → Option (List Int × Int)
 | 0, _, _, _, _, _, _, _, _, _, _, _, _, _, _ => none
 | k + 1, x1, x6, x7, x9, x315000, x315001, x315002, x322000, x322001, x322002, x322003, x322004, x322005, x322006 => aircheckref24_Owed.l1 k x1 x6 x7 x9 (wrap64 (x7 + 1)) x315000 x315001 x315002 x322000 x322001 x322002 x322003 x322004 x322005 x322006
def aircheckref24_Owed.l1 : Nat → Int → List Int → Int → Bool → Int → Int → List (S27) → Int → Int → Int → Int → Int → Int → Int → Int → Option (List Int × Int)
 | 0, _, _, _, _, _, _, _, _, _, _, _, _, _, _, _ => none
 | k + 1, x1, x6, x7, x9, x10, x315000, x315001, x315002, x322000, x322001, x322002, x322003, x322004, x322005, x322006 => if x10 < (x315001.length : Int) then (if x9 = true then (if 0 ≤ x10 then (aircheckref24_Owed.l1 k x1 x6 x7 (((rd_T27 x315001 x10).f6) != x7) (wrap64 (x10 + 1)) x315000 x315001 x315002 x322000 x322001 x322002 x322003 x322004 x322005 x322006) else (none)) else (aircheckref24_Owed.l1 k x1 x6 x7 false (wrap64 (x10 + 1)) x315000 x315001 x315002 x322000 x322001 x322002 x322003 x322004 x322005 x322006)) else (if x9 = true then (if 0 ≤ x322003 then (if x322003 < (x6.length : Int) then ((some (x6.set (x322003 : Int).toNat (wrap64 ((rd x6 x322003) + x322004)) : List Int)).bind fun y324 => (if 0 ≤ x322002 then (if x322002 < (x6.length : Int) then (aircheckref24_Owed.l0 k x1 (y324.set (x322002 : Int).toNat (wrap64 ((rd y324 x322002) - x322004))) (wrap64 (x7 + 1)) x315000 x315001 x315002) else (none)) else (none))) else (none)) else (none)) else (aircheckref24_Owed.l0 k x1 x6 (wrap64 (x7 + 1)) x315000 x315001 x315002))
end
def aircheckref24_Owed.f (k : Nat) (a0_0 : Int) (l0_1 : List (S27)) (a0_2 : Int) (a1 : Int) : Option (List Int × Int) := (aircheckref24_Valid.f k a0_0 l0_1 a0_2).bind fun t315 => (if t315 = true then ((aircheckref24_in.f a1 0 999).bind fun t316 => (aircheckref24_Owed.j0 k a1 (!t316) a0_0 l0_1 a0_2)) else (aircheckref24_Owed.j0 k a1 true a0_0 l0_1 a0_2))
def aircheckref24_Owed.T14 : Bool × List (List Nat × List Nat) := (true, [([], []), ([], []), ([1], [1]), ([], []), ([], []), ([4], [4]), ([3, 5], [3, 5]), ([6], [6]), ([], []), ([8], [8]), ([7, 9], [7, 9]), ([0, 2, 0, 1, 2, 3, 4, 5, 6, 7, 8, 9, 10], [0, 2]), ([11, 10, 0, 1, 2, 3, 4, 5, 6, 7, 8, 9, 10], [10, 11])])
def aircheckref24_Owed.B14 : List Nat := [0, 0, 2, 0, 0, 16, 56, 120, 0, 256, 1016, 2047, 4095]
def aircheckref24_Owed.T15 : Bool × List (List Nat × List Nat) := (true, [([], []), ([], []), ([1], [1]), ([], []), ([], []), ([4], [4]), ([3, 5], [3, 5]), ([6], [6]), ([], []), ([8], [8]), ([7, 9], [7, 9]), ([0, 2, 0, 1, 2, 3, 4, 5, 6, 7, 8, 9, 10], [0, 2]), ([11, 10, 0, 1, 2, 3, 4, 5, 6, 7, 8, 9, 10], [10, 11])])
def aircheckref24_Owed.B15 : List Nat := [0, 0, 2, 0, 0, 16, 56, 120, 0, 256, 1016, 2047, 4095]
end Go.Proofs.Ytooogaogbffjfaa.PB
end
section
/-
  The reference's book is ours.
-/
set_option linter.unusedVariables false
set_option linter.unusedSimpArgs false
namespace Go.Proofs.Ytooogaogbffjfaa.Bk
open Go.RowKit Go.Proofs.YtooogaogbffjfaaW.PrintWords Go.Proofs.YtooogaogbffjfaaW.PrintLast Go.Proofs.YtooogaogbffjfaaW.PrintMore Go.Proofs.Ytooogaogbffjfaa.Ext Go.Proofs.Ytooogaogbffjfaa.PB
theorem refDispute_is (k : Nat) (acc clo : Int) (ps : List S27) (i day amount : Int) (hk : 1001 ≤ k) (hn : ps.length ≤ 999990) :
    aircheckref24_Dispute.f k acc ps clo i day amount = some (dispF acc ps clo i day amount) := by
  unfold aircheckref24_Dispute.f
  rw [if_pos hn]
theorem refClose_is (k : Nat) (acc clo : Int) (ps : List S27) (m : Int) (hk : 1000 ≤ k) (hn : ps.length ≤ 1000000) :
    aircheckref24_Close.f k acc ps clo m = some (closeF acc ps clo m) := by
  unfold aircheckref24_Close.f closeF
  rw [refValid_is k acc clo ps hk hn, Option.bind_some]
  cases hv : validB acc ps clo with
  | false => rfl
  | true =>
    rw [if_pos rfl, Bool.true_and]
    by_cases hm : m = clo
    · subst hm
      rw [if_pos rfl, in_is, Option.bind_some, decide_eq_true (show m = m from rfl), Bool.true_and]
      cases hc : decide (0 ≤ m ∧ m ≤ 11) with
      | false => rfl
      | true =>
        have := of_decide_eq_true hc
        rw [if_pos rfl, if_pos rfl, Option.bind_some, if_pos (by simp; omega), List.nil_append, show wrap64 (m + 1) = m + 1 by unfold wrap64; omega]
    · rw [if_neg hm, decide_eq_false hm]; rfl
/-- what a posting does to an account -/
def delta (p : S27) (t : Int) : Int := (if p.f3 = t then p.f4 else 0) - (if p.f2 = t then p.f4 else 0)
def tot (l : List S27) (t : Int) : Int := (l.map fun p => delta p t).sum
theorem tot_snoc (l : List S27) (p : S27) (t : Int) : tot (l ++ [p]) t = tot l t + delta p t := by simp [tot]
theorem tot_append (l r : List S27) (t : Int) : tot (l ++ r) t = tot l t + tot r t := by simp [tot]
theorem tot_cons (l : List S27) (p : S27) (t : Int) : tot (p :: l) t = delta p t + tot l t := by simp [tot]
theorem sumB_get (l : List S27) (h : ∀ p ∈ l, Book1 p) (t : Nat) (ht : t < 16) : (sumB l).getD t 0 = tot l (t : Int) := by
  generalize hm : l.length = m
  induction m generalizing l with
  | zero =>
    have : l = [] := List.eq_nil_of_length_eq_zero hm
    subst this
    show (List.replicate 16 (0 : Int)).getD t 0 = 0
    rw [List.getD_eq_getElem?_getD, List.getElem?_replicate, if_pos ht]
    rfl
  | succ m ih =>
    rcases List.eq_nil_or_concat l with rfl | ⟨l, p, rfl⟩
    · simp at hm
    · rw [List.concat_eq_append] at *
      have hp := h p (by simp)
      have ih2 := ih l (fun q hq => h q (by simp [hq])) (by simpa using hm)
      unfold Book1 at hp
      have hl := sumB_len l
      rw [sumB_snoc, tot_snoc, ← ih2, addB, delta]
      simp only [List.getD_eq_getElem?_getD, List.getElem?_set, List.length_set, hl]
      by_cases e2 : p.f2.toNat = t
      · rw [if_pos e2, if_pos (by omega), if_pos (show p.f2 = (t : Int) by omega), if_neg (show ¬ p.f3 = (t : Int) by omega), e2]
        simp; omega
      · rw [if_neg e2, if_neg (show ¬ p.f2 = (t : Int) by omega)]
        by_cases e3 : p.f3.toNat = t
        · rw [if_pos e3, if_pos (by omega), if_pos (show p.f3 = (t : Int) by omega), e3]
          simp
        · rw [if_neg e3, if_neg (show ¬ p.f3 = (t : Int) by omega)]
          simp
theorem sumB_range (l : List S27) (h : ∀ p ∈ l, Book1 p) (n : Nat) (hn : n ≤ 16) : (sumB l).take n = (List.range n).map fun t : Nat => tot l (t : Int) := by
  have hl := sumB_len l
  apply List.ext_getElem?
  intro i
  by_cases hi : i < n
  · rw [List.getElem?_take_of_lt hi, List.getElem?_map, List.getElem?_range hi]
    have := sumB_get l h i (by omega)
    rw [List.getD_eq_getElem?_getD, List.getElem?_eq_getElem (show i < (sumB l).length by omega)] at this
    rw [List.getElem?_eq_getElem (show i < (sumB l).length by omega)]
    simpa using this
  · rw [List.getElem?_eq_none (by rw [List.length_take]; omega), List.getElem?_eq_none (by simp; omega)]
theorem delta_bound (p : S27) (t : Int) (h : Book1 p) : -1000000000000 ≤ delta p t ∧ delta p t ≤ 1000000000000 := by
  unfold Book1 at h
  unfold delta
  split <;> split <;> omega
theorem tot_bound (l : List S27) (t : Int) (h : ∀ p ∈ l, Book1 p) : -((l.length : Int) * 1000000000000) ≤ tot l t ∧ tot l t ≤ (l.length : Int) * 1000000000000 := by
  induction l with
  | nil => simp [tot]
  | cons q r ih =>
    have h1 := ih (fun p hp => h p (List.mem_cons_of_mem _ hp))
    have h2 := delta_bound q t (h q (by simp))
    rw [tot_cons]
    have e : (((q :: r).length : Nat) : Int) = (r.length : Int) + 1 := by simp
    rw [e]
    omega
theorem rd_mem (ps : List S27) (i : Nat) (h : i < ps.length) : rd_T27 ps (i : Int) ∈ ps := by
  unfold rd_T27
  rw [Int.toNat_natCast, List.getD_eq_getElem?_getD, List.getElem?_eq_getElem h]
  exact List.getElem_mem h
theorem okAll_from (n : Int) (ps : List S27) (h : okAll n [] ps = true) : ∀ i : Nat, i ≤ ps.length → okAll n (ps.take i) (ps.drop i) = true := by
  intro i
  induction i with
  | zero => intro _; simpa using h
  | succ i ih =>
    intro hi
    have h1 := ih (by omega)
    rw [okAll_step n ps i (by omega), Bool.and_eq_true] at h1
    exact h1.2
theorem okAll_at (n : Int) (ps : List S27) (h : okAll n [] ps = true) (i : Nat) (hi : i < ps.length) : nextB n (ps.take i) (rd_T27 ps (i : Int)) = true := by
  have h1 := okAll_from n ps h i (by omega)
  rw [okAll_step n ps i hi, Bool.and_eq_true] at h1
  exact h1.1
theorem of_back {acc clo : Int} {ps : List S27} (hv : validB acc ps clo = true) (i : Nat) (hi : i < ps.length) : (rd_T27 ps (i : Int)).f6 < (i : Int) := by
  have hv2 := hv
  unfold validB at hv2
  rw [Bool.and_eq_true] at hv2
  have h := okAll_at acc ps hv2.1 i hi
  have hl := valid_len hv
  rw [next_is acc ps i _ hl hi] at h
  have hf := valid_formed hv _ (rd_mem ps i hi)
  rw [Bool.and_eq_true, Bool.and_eq_true] at h
  rcases formed_of hf with ⟨_, h6⟩ | ⟨h3, _⟩
  · omega
  · have h := h.2.2
    rw [decide_eq_false (show ¬ (rd_T27 ps (i : Int)).f0 ≠ 3 by omega), Bool.false_or, Bool.and_eq_true] at h
    exact of_decide_eq_true h.1
def owTail (r : Nat) (s : Int) (out : List Int) (i : Int) (st : Bool) (acc clo : Int) (ps : List S27) (p : S27) : Option (List Int × Int) :=
  if st = true then (if 0 ≤ p.f3 then (if p.f3 < (out.length : Int) then (if 0 ≤ p.f2 then (if p.f2 < (out.length : Int) then (aircheckref24_Owed.l0 r s ((out.set p.f3.toNat (wrap64 ((rd out p.f3) + p.f4))).set p.f2.toNat (wrap64 ((rd (out.set p.f3.toNat (wrap64 ((rd out p.f3) + p.f4))) p.f2) - p.f4))) (wrap64 (i + 1)) acc ps clo) else none) else none) else none) else none) else aircheckref24_Owed.l0 r s out (wrap64 (i + 1)) acc ps clo
end Go.Proofs.Ytooogaogbffjfaa.Bk
end
section
-- Written by a program of this session out of the translation's print; not trusted: checked by the kernel.
namespace Go.Proofs.Ytooogaogbffjfaa.PB
open Go.Proofs.Ytooogaogbffjfaa.Ext
open Go.RowKit Go.Proofs.YtooogaogbffjfaaW.PrintWords Go.Proofs.YtooogaogbffjfaaW.PrintLast Go.Proofs.YtooogaogbffjfaaW.PrintMore
attribute [local go_sem] max2_int min2_int max_two min_two max_three min_three max_four min_four   -- for this text's walks alone
set_option linter.unusedVariables false
set_option linter.unusedSimpArgs false
/-! ### aircheckref24_pick: function 27 -/
def aircheckref24_pick.f (a0 : Int) (a1 : Int) : Option (Int) := if a0 < 0 then (if a1 = 0 then (none) else (some (Int.tmod (wrap64 (-(wrap64 (a0 + 1)))) a1))) else (if a1 = 0 then (none) else (some (Int.tmod a0 a1)))
set_option maxHeartbeats 8000000 in
set_option maxRecDepth 100000 in
theorem aircheckref24_pick.calls (a0 : Int) (a1 : Int) (r : Int) (w : World) (h : aircheckref24_pick.f a0 a1 = some r) :
  Calls Try.prog 27 #[.int .i64 a0, .int .i64 a1] w fun e w' => e = .returned (.int .i64 r) ∧ Drawn0 w w' := by
 have H : (if a0 < 0 then (if a1 = 0 then (none) else (some (Int.tmod (wrap64 (-(wrap64 (a0 + 1)))) a1))) else (if a1 = 0 then (none) else (some (Int.tmod a0 a1)))) = some r := h
 clear h
 by_cases c3 : a0 < 0
 ·rw [if_pos c3] at H
  have c3b0 : decide (a0 < 0) = true := decide_eq_true c3
  clear c3
  by_cases c4 : a1 = 0
  ·rw [if_pos c4] at H
   exact absurd H (by simp)
  ·rw [if_neg c4] at H
   have c4b0 : (a1 == 0) = false := beq_eq_false_iff_ne.mpr c4
   have c4b1 : (a1 != 0) = true := bne_iff_ne.mpr c4
   obtain rfl := Option.some.inj H
   go_enter Try.func27, Try.ntmps27
   go_wp2
   go_ret
   exact ⟨by first | rfl | (simp; done) | (simp [*]; done), by repeat (first | exact Drawn0.refl _ | apply Drawn0.step)⟩
 ·rw [if_neg c3] at H
  have c3b0 : decide (a0 < 0) = false := decide_eq_false c3
  clear c3
  by_cases c5 : a1 = 0
  ·rw [if_pos c5] at H
   exact absurd H (by simp)
  ·rw [if_neg c5] at H
   have c5b0 : (a1 == 0) = false := beq_eq_false_iff_ne.mpr c5
   have c5b1 : (a1 != 0) = true := bne_iff_ne.mpr c5
   obtain rfl := Option.some.inj H
   go_enter Try.func27, Try.ntmps27
   go_wp2
   go_ret
   exact ⟨by first | rfl | (simp; done) | (simp [*]; done), by repeat (first | exact Drawn0.refl _ | apply Drawn0.step)⟩
end Go.Proofs.Ytooogaogbffjfaa.PB
end
section
/-
  The book that integers determine: what Made returns.
-/
set_option linter.unusedVariables false
set_option linter.unusedSimpArgs false
namespace Go.Proofs.Ytooogaogbffjfaa.Bk
open Go.RowKit Go.Proofs.YtooogaogbffjfaaW.PrintWords Go.Proofs.YtooogaogbffjfaaW.PrintLast Go.Proofs.YtooogaogbffjfaaW.PrintMore Go.Proofs.Ytooogaogbffjfaa.Ext Go.Proofs.Ytooogaogbffjfaa.PB
/-- an integer as an index -/
def pk (c n : Int) : Int := (if c < 0 then -(c + 1) else c) % n
def I64 (c : Int) : Prop := -9223372036854775808 ≤ c ∧ c ≤ 9223372036854775807
theorem pk_bound (c n : Int) (hn : 0 < n) : 0 ≤ pk c n ∧ pk c n < n := ⟨Int.emod_nonneg _ (by omega), Int.emod_lt_of_pos _ hn⟩
theorem pick_is (c n : Int) (hc : I64 c) (hn : 0 < n) : aircheckref24_pick.f c n = some (pk c n) := by
  unfold I64 at hc
  unfold aircheckref24_pick.f pk
  by_cases h : c < 0
  · rw [if_pos h, if_neg (by omega), if_pos h, show wrap64 (c + 1) = c + 1 by unfold wrap64; omega, show wrap64 (-(c + 1)) = -(c + 1) by unfold wrap64; omega, Int.tmod_eq_emod_of_nonneg (by omega)]
  · rw [if_neg h, if_neg (by omega), if_neg h, Int.tmod_eq_emod_of_nonneg (by omega)]
/-- a state of Made: postings, closed months, day -/
abbrev MS := List S27 × Int × Int
def dayM (d : Int) (x : S48) : Int := if d + pk x.f1 20 < 359 then d + pk x.f1 20 else 359
def postM (acc d : Int) (x : S48) : S27 := ⟨1 + pk (Int.tdiv x.f4 7) 2, d, pk x.f2 acc, (pk x.f2 acc + 1 + pk x.f3 (acc - 1)) % acc, 1 + pk x.f4 1000, pk x.f4 6, -1⟩
def min2M (c : Int) : Int := if 30 * c < 359 then 30 * c else 359
def day2M (d c : Int) : Int := if d < min2M c then min2M c else d
def stepM (acc : Int) (s : MS) (x : S48) : MS :=
  if pk x.f0 6 = 4 then
    (if (dispF acc s.1 s.2.1 (pk x.f3 ((s.1.length : Int) + 1)) (dayM s.2.2 x) (pk x.f4 1000)).2.2.2 = 0 then ((dispF acc s.1 s.2.1 (pk x.f3 ((s.1.length : Int) + 1)) (dayM s.2.2 x) (pk x.f4 1000)).2.1, (dispF acc s.1 s.2.1 (pk x.f3 ((s.1.length : Int) + 1)) (dayM s.2.2 x) (pk x.f4 1000)).2.2.1, dayM s.2.2 x) else (s.1, s.2.1, dayM s.2.2 x))
  else if pk x.f0 6 = 5 then
    (if (closeF acc s.1 s.2.1 s.2.1).2.2.2 = 0 then ((closeF acc s.1 s.2.1 s.2.1).2.1, (closeF acc s.1 s.2.1 s.2.1).2.2.1, day2M (dayM s.2.2 x) (closeF acc s.1 s.2.1 s.2.1).2.2.1) else (s.1, s.2.1, day2M (dayM s.2.2 x) (closeF acc s.1 s.2.1 s.2.1).2.2.1))
  else
    (if (postF acc s.1 s.2.1 (postM acc (dayM s.2.2 x) x)).2.2.2.2 = 0 then ((postF acc s.1 s.2.1 (postM acc (dayM s.2.2 x) x)).2.1, (postF acc s.1 s.2.1 (postM acc (dayM s.2.2 x) x)).2.2.1, dayM s.2.2 x) else (s.1, s.2.1, dayM s.2.2 x))
def runM (acc : Int) (l : List S48) : MS := l.foldl (stepM acc) ([], 0, 0)
def accM (accounts : Int) : Int := 2 + pk accounts 15
theorem accM_bound (a : Int) : 2 ≤ accM a ∧ accM a ≤ 16 := by unfold accM; have := pk_bound a 15 (by omega); omega
theorem runM_snoc (acc : Int) (l : List S48) (x : S48) : runM acc (l ++ [x]) = stepM acc (runM acc l) x := by simp [runM]
/-- what holds of a state -/
def MOk (acc : Int) (n : Nat) (s : MS) : Prop := validB acc s.1 s.2.1 = true ∧ s.1.length ≤ 2 * n ∧ 0 ≤ s.2.2 ∧ s.2.2 ≤ 359
theorem valid_post {acc clo : Int} {ps : List S27} {p : S27} (h : (validB acc ps clo && postB acc clo ps p) = true) : validB acc (ps ++ [p]) clo = true := by
  unfold postB at h
  rw [Bool.and_eq_true, Bool.and_eq_true] at h
  rw [valid_snoc, h.1, h.2.2]; rfl
theorem post_cases (acc clo : Int) (ps : List S27) (p : S27) : ((validB acc ps clo && postB acc clo ps p) = true ∧ postF acc ps clo p = (acc, ps ++ [p], clo, (ps.length : Int), 0)) ∨ ((validB acc ps clo && postB acc clo ps p) = false ∧ postF acc ps clo p = (0, [], 0, 0, 240)) := by
  unfold postF
  cases h : (validB acc ps clo && postB acc clo ps p) with
  | true => exact .inl ⟨rfl, rfl⟩
  | false => exact .inr ⟨rfl, rfl⟩
theorem close_cases (acc clo : Int) (ps : List S27) (m : Int) : (validB acc ps clo = true ∧ m = clo ∧ (0 ≤ clo ∧ clo ≤ 11) ∧ closeF acc ps clo m = (acc, ps, clo + 1, 0)) ∨ (¬ (validB acc ps clo = true ∧ m = clo ∧ 0 ≤ clo ∧ clo ≤ 11) ∧ closeF acc ps clo m = errB) := by
  unfold closeF
  by_cases h : validB acc ps clo = true ∧ m = clo ∧ 0 ≤ clo ∧ clo ≤ 11
  · exact .inl ⟨h.1, h.2.1, h.2.2, by rw [h.1, decide_eq_true h.2.1, decide_eq_true h.2.2]; rfl⟩
  · refine .inr ⟨h, if_neg fun h2 => h ?_⟩
    rw [Bool.and_eq_true, Bool.and_eq_true] at h2
    exact ⟨h2.1.1, of_decide_eq_true h2.1.2, of_decide_eq_true h2.2⟩
/-- what a dispute comes to -/
inductive DispR (acc : Int) (ps : List S27) (clo i day amount : Int) : Int × List S27 × Int × Int → Prop
  | zero (h : validB acc ps clo = true) (hi : 0 ≤ i ∧ i < (ps.length : Int)) (ha : amount = 0) (h1 : postB acc clo ps (backP (rd_T27 ps i) i.toNat day) = true) : DispR acc ps clo i day amount (acc, ps ++ [backP (rd_T27 ps i) i.toNat day], clo, 0)
  | more (h : validB acc ps clo = true) (hi : 0 ≤ i ∧ i < (ps.length : Int)) (ha : 0 < amount ∧ amount ≤ 1000000000000) (h1 : postB acc clo ps (backP (rd_T27 ps i) i.toNat day) = true) (h2 : postB acc clo (ps ++ [backP (rd_T27 ps i) i.toNat day]) (newP (rd_T27 ps i) day amount) = true) : DispR acc ps clo i day amount (acc, ps ++ [backP (rd_T27 ps i) i.toNat day] ++ [newP (rd_T27 ps i) day amount], clo, 0)
  | err (h : ¬ (validB acc ps clo = true ∧ (0 ≤ i ∧ i < (ps.length : Int)) ∧ (0 ≤ amount ∧ amount ≤ 1000000000000) ∧ postB acc clo ps (backP (rd_T27 ps i) i.toNat day) = true ∧ (0 < amount → postB acc clo (ps ++ [backP (rd_T27 ps i) i.toNat day]) (newP (rd_T27 ps i) day amount) = true))) : DispR acc ps clo i day amount errB
theorem disp_cases (acc clo : Int) (ps : List S27) (i day amount : Int) : DispR acc ps clo i day amount (dispF acc ps clo i day amount) := by
  unfold dispF
  by_cases h : validB acc ps clo = true ∧ (0 ≤ i ∧ i < (ps.length : Int)) ∧ (0 ≤ amount ∧ amount ≤ 1000000000000) ∧ postB acc clo ps (backP (rd_T27 ps i) i.toNat day) = true
  · obtain ⟨h1, h2, h3, h4⟩ := h
    rw [h1, decide_eq_true h2, decide_eq_true h3, h4]
    simp only [Bool.and_self, if_true]
    by_cases ha : 0 < amount
    · rw [if_pos ha]
      cases h5 : postB acc clo (ps ++ [backP (rd_T27 ps i) i.toNat day]) (newP (rd_T27 ps i) day amount) with
      | true => rw [if_pos rfl]; exact .more h1 h2 ⟨ha, h3.2⟩ h4 h5
      | false => rw [if_neg (by decide)]; exact .err fun h => by have := h.2.2.2.2 ha; rw [h5] at this; cases this
    · rw [if_neg ha]; exact .zero h1 h2 (by omega) h4
  · rw [if_neg fun h2 => h ?_]
    · exact .err fun h2 => h ⟨h2.1, h2.2.1, h2.2.2.1, h2.2.2.2.1⟩
    · rw [Bool.and_eq_true, Bool.and_eq_true, Bool.and_eq_true] at h2
      exact ⟨h2.1.1.1, of_decide_eq_true h2.1.1.2, of_decide_eq_true h2.1.2, h2.2⟩
theorem disp_valid {acc clo : Int} {ps : List S27} {i day amount : Int} {r : Int × List S27 × Int × Int} (h : DispR acc ps clo i day amount r) (h0 : r.2.2.2 = 0) : r.1 = acc ∧ validB acc r.2.1 r.2.2.1 = true ∧ r.2.1.length ≤ ps.length + 2 ∧ r.2.2.1 = clo := by
  cases h with
  | zero h hi ha h1 => exact ⟨rfl, valid_post (by rw [h, h1]; rfl), by simp, rfl⟩
  | more h hi ha h1 h2 => exact ⟨rfl, valid_post (by rw [valid_post (by rw [h, h1]; rfl), h2]; rfl), by simp, rfl⟩
  | err h => exact absurd h0 (by decide)
theorem dayM_bound (d : Int) (x : S48) (h : 0 ≤ d) : 0 ≤ dayM d x ∧ dayM d x ≤ 359 := by
  have := pk_bound x.f1 20 (by omega)
  unfold dayM
  split <;> omega
theorem day2M_bound (d c : Int) (h : 0 ≤ d ∧ d ≤ 359) (hc : 0 ≤ c) : 0 ≤ day2M d c ∧ day2M d c ≤ 359 := by
  unfold day2M min2M
  split <;> split <;> omega
theorem step_ok (acc : Int) (n : Nat) (s : MS) (x : S48) (h : MOk acc n s) : MOk acc (n + 1) (stepM acc s x) := by
  obtain ⟨hv, hl, hd⟩ := h
  have h1 := dayM_bound s.2.2 x hd.1
  unfold stepM
  by_cases e4 : pk x.f0 6 = 4
  · rw [if_pos e4]
    have hd := disp_cases acc s.2.1 s.1 (pk x.f3 ((s.1.length : Int) + 1)) (dayM s.2.2 x) (pk x.f4 1000)
    generalize dispF acc s.1 s.2.1 (pk x.f3 ((s.1.length : Int) + 1)) (dayM s.2.2 x) (pk x.f4 1000) = r at *
    by_cases e : r.2.2.2 = 0
    · rw [if_pos e]
      have := disp_valid hd e
      exact ⟨this.2.1, by have := this.2.2.1; show r.2.1.length ≤ _; omega, h1⟩
    · rw [if_neg e]
      exact ⟨hv, by show s.1.length ≤ _; omega, h1⟩
  · rw [if_neg e4]
    by_cases e5 : pk x.f0 6 = 5
    · rw [if_pos e5]
      rcases close_cases acc s.2.1 s.1 s.2.1 with ⟨_, _, hc, e⟩ | ⟨_, e⟩
      · rw [e]
        refine ⟨?_, by show s.1.length ≤ _; omega, day2M_bound _ _ h1 (by show 0 ≤ s.2.1 + 1; omega)⟩
        show validB acc s.1 (s.2.1 + 1) = true
        unfold validB at hv ⊢
        rw [Bool.and_eq_true] at hv
        rw [hv.1, Bool.true_and]
        have := hv.2
        unfold inB at this ⊢
        have := of_decide_eq_true this
        exact decide_eq_true ⟨this.1, by omega⟩
      · rw [e]
        exact ⟨hv, by show s.1.length ≤ _; omega, day2M_bound _ _ h1 (Int.le_refl _)⟩
    · rw [if_neg e5]
      rcases post_cases acc s.2.1 s.1 (postM acc (dayM s.2.2 x) x) with ⟨hp, e⟩ | ⟨_, e⟩
      · rw [e]
        exact ⟨valid_post hp, by show (s.1 ++ [_]).length ≤ _; simp; omega, h1⟩
      · rw [e]
        exact ⟨hv, by show s.1.length ≤ _; omega, h1⟩
theorem start_ok (acc : Int) (ha : 2 ≤ acc ∧ acc ≤ 16) : MOk acc 0 ([], 0, 0) := by
  refine ⟨?_, by simp, by decide, by decide⟩
  unfold validB inB okAll
  exact decide_eq_true ⟨ha, by decide⟩
theorem run_ok (acc : Int) (ha : 2 ≤ acc ∧ acc ≤ 16) (l : List S48) : MOk acc l.length (runM acc l) := by
  generalize hm : l.length = m
  induction m generalizing l with
  | zero =>
    have : l = [] := List.eq_nil_of_length_eq_zero hm
    subst this
    exact start_ok acc ha
  | succ m ih =>
    rcases List.eq_nil_or_concat l with rfl | ⟨l, x, rfl⟩
    · simp at hm
    · rw [List.concat_eq_append] at *
      rw [runM_snoc]
      exact step_ok acc m _ x (ih l (by simpa using hm))
/-- the book of Made -/
def madeF (accounts : Int) (l : List S48) : Int × List S27 × Int := (accM accounts, (runM (accM accounts) (l.take 24)).1, (runM (accM accounts) (l.take 24)).2.1)
end Go.Proofs.Ytooogaogbffjfaa.Bk
end
section
/-
  What the books come to: sums over postings.
-/
set_option linter.unusedVariables false
set_option linter.unusedSimpArgs false
namespace Go.Proofs.Ytooogaogbffjfaa.Bk
open Go.RowKit Go.Proofs.YtooogaogbffjfaaW.PrintWords Go.Proofs.YtooogaogbffjfaaW.PrintLast Go.Proofs.YtooogaogbffjfaaW.PrintMore Go.Proofs.Ytooogaogbffjfaa.Ext
def sumI (g : Nat → S27 → Int) : Nat → List S27 → Int
  | _, [] => 0
  | i, p :: r => g i p + sumI g (i + 1) r
theorem sumI_snoc (g : Nat → S27 → Int) (l : List S27) (p : S27) : ∀ i, sumI g i (l ++ [p]) = sumI g i l + g (i + l.length) p := by
  induction l with
  | nil => intro i; simp [sumI]
  | cons q r ih =>
    intro i
    rw [List.cons_append, sumI, sumI, ih (i + 1)]
    have e : i + (q :: r).length = i + 1 + r.length := by simp; omega
    rw [e]; omega
theorem sumI_congr (g g' : Nat → S27 → Int) (l : List S27) : ∀ i, (∀ (j : Nat) (p : S27), l[j]? = some p → g (i + j) p = g' (i + j) p) → sumI g i l = sumI g' i l := by
  induction l with
  | nil => intro i _; rfl
  | cons q r ih =>
    intro i h
    rw [sumI, sumI]
    have h0 := h 0 q rfl
    rw [Nat.add_zero] at h0
    rw [h0, ih (i + 1) (fun j p hj => by have := h (j + 1) p hj; rw [show i + (j + 1) = i + 1 + j by omega] at this; exact this)]
theorem tot_those (f : Nat → S27 → Bool) (t : Int) (l : List S27) : ∀ i, tot (thoseL f i l) t = sumI (fun i p => if f i p then delta p t else 0) i l := by
  induction l with
  | nil => intro i; rfl
  | cons q r ih =>
    intro i
    rw [thoseL, sumI, ← ih (i + 1)]
    split
    · rw [tot_cons]
    · omega
/-- one weight is changed -/
theorem sumI_one (g g' : Nat → S27 → Int) (o : Nat) (p : S27) (l : List S27) : ∀ i, (∀ (j : Nat) (q : S27), j ≠ o → g' j q = g j q) → i ≤ o → l[o - i]? = some p → sumI g' i l = sumI g i l - g o p + g' o p := by
  induction l with
  | nil => intro i _ _ h; simp at h
  | cons q r ih =>
    intro i hg hi h
    rw [sumI, sumI]
    by_cases e : i = o
    · subst e
      rw [Nat.sub_self, List.getElem?_cons_zero] at h
      obtain rfl := Option.some.inj h
      rw [sumI_congr g' g r (i + 1) (fun j p _ => hg _ _ (by omega))]
      omega
    · rw [hg i q e, ih (i + 1) hg (by omega) (by rw [show o - i = (o - (i + 1)) + 1 by omega, List.getElem?_cons_succ] at h; exact h)]
      omega
/-- a sum over numbers -/
def sumN (n : Nat) (f : Nat → Int) : Int := match n with | 0 => 0 | n + 1 => sumN n f + f n
/-- whether a posting stands -/
def standF (bk : List Bool) (i : Nat) (p : S27) : Bool := !(p.f0 == 3) && !(bk.getD i false)
/-- what stands, for a weight -/
def stW (v : S27 → Int) (l : List S27) : Int := sumI (fun i p => if standF (backs l) i p then v p else 0) 0 l
def alW (v : S27 → Int) (l : List S27) : Int := sumI (fun _ p => v p) 0 l
theorem backs_out (l : List S27) (i : Nat) (h : ∀ q ∈ l, q.f6 < (i : Int)) : (backs l).getD i false = false := by
  by_cases hi : i < 200
  · rw [List.getD_eq_getElem?_getD, backs_at l i hi, Option.getD_some, List.any_eq_false]
    intro q hq
    have := h q hq
    simp; omega
  · rw [List.getD_eq_getElem?_getD, List.getElem?_eq_none (by rw [backs_len]; omega)]; rfl
theorem of_lt {acc clo : Int} {l : List S27} (hv : validB acc l clo = true) : ∀ q ∈ l, q.f6 < (l.length : Int) := by
  intro q hq
  obtain ⟨j, hj, he⟩ := List.mem_iff_getElem.1 hq
  have h := of_back hv j hj
  have e : rd_T27 l (j : Int) = q := by
    unfold rd_T27
    rw [Int.toNat_natCast, List.getD_eq_getElem?_getD, List.getElem?_eq_getElem hj]
    exact he
  rw [e] at h
  omega
/-- what is posted behind a valid book stands, or takes one back that stood -/
theorem stW_snoc {acc clo : Int} {l : List S27} {p : S27} (v : S27 → Int) (hv : validB acc (l ++ [p]) clo = true) :
    (p.f0 ≠ 3 ∧ stW v (l ++ [p]) = stW v l + v p) ∨ (p.f0 = 3 ∧ 0 ≤ p.f6 ∧ p.f6 < (l.length : Int) ∧ isBackB p (rd_T27 l p.f6) = true ∧ (rd_T27 l p.f6).f0 ≠ 3 ∧ (backs l).getD p.f6.toNat false = false ∧ stW v (l ++ [p]) = stW v l - v (rd_T27 l p.f6)) := by
  rw [valid_snoc, Bool.and_eq_true] at hv
  obtain ⟨hv, hn⟩ := hv
  have hl := valid_len hv
  have hf := next_formed hn
  have hform := formed_of hf
  have hlen := next_len hn
  unfold nextB at hn
  rw [Bool.and_eq_true, Bool.and_eq_true, Bool.and_eq_true] at hn
  have h4 := hn.2.2.2
  unfold stW
  rw [sumI_snoc, Nat.zero_add]
  have hnew : (backs l).getD l.length false = false := backs_out l _ (of_lt hv)
  by_cases h3 : p.f0 = 3
  · right
    rw [decide_eq_false (show ¬ p.f0 ≠ 3 by omega), Bool.false_or, Bool.and_eq_true, Bool.and_eq_true] at h4
    obtain ⟨hlt, hb, hib⟩ := h4
    have hlt := of_decide_eq_true hlt
    have h6 : 0 ≤ p.f6 := by rcases hform with ⟨h, _⟩ | h <;> omega
    obtain ⟨o, ho⟩ := Int.eq_ofNat_of_zero_le h6
    rw [ho] at hlt hb hib ⊢
    rw [Int.toNat_natCast] at hb hib ⊢
    have hb0 : (backs l).getD o false = false := by cases h : (backs l).getD o false with | false => rfl | true => rw [h] at hb; cases hb
    have hrd : rd_T27 l (o : Int) = l.getD o z27 := by unfold rd_T27; rw [Int.toNat_natCast]
    rw [← hrd] at hib
    have hq0 : (rd_T27 l (o : Int)).f0 ≠ 3 := by
      unfold isBackB at hib
      exact (of_decide_eq_true hib).1
    refine ⟨h3, by omega, hlt, hib, hq0, hb0, ?_⟩
    have hst : standF (backs (l ++ [p])) l.length p = false := by unfold standF; rw [h3]; rfl
    rw [hst, if_neg (by decide), Int.add_zero, backs_set l p h3 o ho (by omega)]
    have hget : l[o - 0]? = some (rd_T27 l (o : Int)) := by
      rw [hrd, Nat.sub_zero, List.getD_eq_getElem?_getD, List.getElem?_eq_getElem (show o < l.length by omega)]; rfl
    rw [sumI_one (fun i p => if standF (backs l) i p then v p else 0) (fun i p => if standF ((backs l).set o true) i p then v p else 0) o _ l 0 ?_ (by omega) hget]
    · have e1 : standF (backs l) o (rd_T27 l (o : Int)) = true := by unfold standF; rw [hb0, beq_eq_false_iff_ne.2 hq0]; rfl
      have e2 : standF ((backs l).set o true) o (rd_T27 l (o : Int)) = false := by
        unfold standF
        rw [List.getD_eq_getElem?_getD, List.getElem?_set, if_pos rfl, if_pos (by rw [backs_len]; omega)]
        simp
      simp only [e1, e2]
      simp
    · intro j q hj
      have : ((backs l).set o true).getD j false = (backs l).getD j false := by rw [List.getD_eq_getElem?_getD, List.getElem?_set_ne (by omega), ← List.getD_eq_getElem?_getD]
      have e3 : standF ((backs l).set o true) j q = standF (backs l) j q := by unfold standF; rw [this]
      show (if standF ((backs l).set o true) j q then v q else 0) = if standF (backs l) j q then v q else 0
      rw [e3]
  · left
    refine ⟨h3, ?_⟩
    rw [backs_other l p h3]
    have hst : standF (backs l) l.length p = true := by unfold standF; rw [hnew, beq_eq_false_iff_ne.2 h3]; rfl
    rw [hst, if_pos rfl]
/-- the two of a taken back posting come to nothing -/
def Odd (v : S27 → Int) : Prop := ∀ p q : S27, isBackB p q = true → v p = - v q
/-- a list by its function -/
def L (n : Nat) (f : Nat → Int) : List Int := (List.range n).map f
theorem L_len (n : Nat) (f : Nat → Int) : (L n f).length = n := by simp [L]
theorem L_congr (n : Nat) (f g : Nat → Int) (h : ∀ t, t < n → f t = g t) : L n f = L n g := List.map_congr_left fun t ht => h t (List.mem_range.1 ht)
theorem L_get (n : Nat) (f : Nat → Int) (i : Nat) (h : i < n) : (L n f)[i]? = some (f i) := by
  unfold L
  rw [List.getElem?_map, List.getElem?_range h]; rfl
theorem L_rd (n : Nat) (f : Nat → Int) (i : Int) (h0 : 0 ≤ i) (h : i < (n : Int)) : rd (L n f) i = f i.toNat := by
  unfold rd
  rw [List.getD_eq_getElem?_getD, L_get n f _ (by omega)]; rfl
theorem L_set (n : Nat) (f : Nat → Int) (i : Nat) (v : Int) : (L n f).set i v = L n fun t => if t = i then v else f t := by
  apply List.ext_getElem?
  intro j
  rw [List.getElem?_set, L_len]
  by_cases hj : j < n
  · rw [L_get _ _ _ hj, L_get _ _ _ hj]
    by_cases e : i = j
    · subst e; rw [if_pos rfl, if_pos hj, if_pos rfl]
    · rw [if_neg e, if_neg (fun h => e h.symm)]
  · rw [List.getElem?_eq_none (show (L n f).length ≤ j by rw [L_len]; omega), List.getElem?_eq_none (show (L n _).length ≤ j by rw [L_len]; omega)]
    by_cases e : i = j
    · subst e; rw [if_pos rfl, if_neg hj]
    · rw [if_neg e]
theorem stL_L (m : Int) (ps : List S27) (h : ∀ p ∈ ps, Book1 p) (n : Nat) (hn : n ≤ 16) : (stL m ps).take n = L n fun t => tot (thoseL (stF m) 0 ps) (t : Int) := sumB_range _ (fun p hp => h p (thoseL_mem _ _ _ p hp)) n hn
theorem owL_L (s : Int) (ps : List S27) (h : ∀ p ∈ ps, Book1 p) (n : Nat) (hn : n ≤ 16) : (owL s ps).take n = L n fun t => tot (thoseL (owedF s (backs ps)) 0 ps) (t : Int) := sumB_range _ (fun p hp => h p (thoseL_mem _ _ _ p hp)) n hn
theorem those_bound (f : Nat → S27 → Bool) (ps : List S27) (h : ∀ p ∈ ps, Book1 p) (hl : ps.length ≤ 200) (t : Int) : -200000000000000 ≤ tot (thoseL f 0 ps) t ∧ tot (thoseL f 0 ps) t ≤ 200000000000000 := by
  have h1 := tot_bound (thoseL f 0 ps) t (fun p hp => h p (thoseL_mem _ _ _ p hp))
  have h2 := thoseL_len f ps 0
  omega
end Go.Proofs.Ytooogaogbffjfaa.Bk
end
