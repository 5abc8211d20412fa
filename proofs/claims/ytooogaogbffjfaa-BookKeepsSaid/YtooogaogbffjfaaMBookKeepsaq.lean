import Derived.Test.YtooogaogbffjfaaMBookKeepsap
/-
  Texts of this claim, one behind the other: what they prove stands above each.
-/
section
-- Written by a program of this session out of the translation's print; not trusted: checked by the kernel.
namespace Go.Proofs.Ytooogaogbffjfaa.PB
open Go.Proofs.Ytooogaogbffjfaa.Ext
open Go.RowKit Go.Proofs.YtooogaogbffjfaaW.PrintWords Go.Proofs.YtooogaogbffjfaaW.PrintLast Go.Proofs.YtooogaogbffjfaaW.PrintMore
attribute [local go_sem] max2_int min2_int max_two min_two max_three min_three max_four min_four   -- for this text's walks alone
set_option linter.unusedVariables false
set_option linter.unusedSimpArgs false
/-! ### aircheckref24_formed: function 31 -/
def aircheckref24_formed.j0 : Nat → Bool → Int → Int → Int → Int → Int → Int → Int → Option (Bool)
 | 0, _, _, _, _, _, _, _, _ => none
 | k + 1, x43, x184000, x184001, x184002, x184003, x184004, x184005, x184006 => if x43 = true then (some false) else (if x184000 = 1 then (some (x184006 == (-1))) else (if x184000 = 2 then (some (x184006 == (-1))) else (if x184000 = 3 then ((aircheckref24_in.f x184006 0 199).bind fun t189 => (some t189)) else (some false))))
def aircheckref24_formed.f (k : Nat) (a0_0 : Int) (a0_1 : Int) (a0_2 : Int) (a0_3 : Int) (a0_4 : Int) (a0_5 : Int) (a0_6 : Int) (a1 : Int) : Option (Bool) := (aircheckref24_in.f a0_1 0 359).bind fun t184 => (if t184 = true then ((aircheckref24_in.f a0_2 0 (wrap64 (a1 - 1))).bind fun t185 => (if t185 = true then ((aircheckref24_in.f a0_3 0 (wrap64 (a1 - 1))).bind fun t186 => (if t186 = true then (if a0_2 = a0_3 then (aircheckref24_formed.j0 k true a0_0 a0_1 a0_2 a0_3 a0_4 a0_5 a0_6) else ((aircheckref24_in.f a0_4 1 1000000000000).bind fun t187 => (if t187 = true then ((aircheckref24_in.f a0_5 0 999).bind fun t188 => (aircheckref24_formed.j0 k (!t188) a0_0 a0_1 a0_2 a0_3 a0_4 a0_5 a0_6)) else (aircheckref24_formed.j0 k true a0_0 a0_1 a0_2 a0_3 a0_4 a0_5 a0_6)))) else (aircheckref24_formed.j0 k true a0_0 a0_1 a0_2 a0_3 a0_4 a0_5 a0_6))) else (aircheckref24_formed.j0 k true a0_0 a0_1 a0_2 a0_3 a0_4 a0_5 a0_6))) else (aircheckref24_formed.j0 k true a0_0 a0_1 a0_2 a0_3 a0_4 a0_5 a0_6))
set_option maxHeartbeats 8000000 in
set_option maxRecDepth 100000 in
theorem aircheckref24_formed.calls (k : Nat) (a0_0 : Int) (a0_1 : Int) (a0_2 : Int) (a0_3 : Int) (a0_4 : Int) (a0_5 : Int) (a0_6 : Int) (a1 : Int) (r : Bool) (w : World) (h : aircheckref24_formed.f k a0_0 a0_1 a0_2 a0_3 a0_4 a0_5 a0_6 a1 = some r) :
  Calls Try.prog 31 #[.agg #[.int .i64 a0_0, .int .i64 a0_1, .int .i64 a0_2, .int .i64 a0_3, .int .i64 a0_4, .int .i64 a0_5, .int .i64 a0_6], .int .i64 a1] w fun e w' => e = .returned (.bool r) ∧ Below w.heap.size w w' := by
 have hu27 := Try.underlying27
 have HB := Aside0.mk (Below.refl w.heap.size w)
 have H : ((aircheckref24_in.f a0_1 0 359).bind fun t184 => (if t184 = true then ((aircheckref24_in.f a0_2 0 (wrap64 (a1 - 1))).bind fun t185 => (if t185 = true then ((aircheckref24_in.f a0_3 0 (wrap64 (a1 - 1))).bind fun t186 => (if t186 = true then (if a0_2 = a0_3 then (aircheckref24_formed.j0 k true a0_0 a0_1 a0_2 a0_3 a0_4 a0_5 a0_6) else ((aircheckref24_in.f a0_4 1 1000000000000).bind fun t187 => (if t187 = true then ((aircheckref24_in.f a0_5 0 999).bind fun t188 => (aircheckref24_formed.j0 k (!t188) a0_0 a0_1 a0_2 a0_3 a0_4 a0_5 a0_6)) else (aircheckref24_formed.j0 k true a0_0 a0_1 a0_2 a0_3 a0_4 a0_5 a0_6)))) else (aircheckref24_formed.j0 k true a0_0 a0_1 a0_2 a0_3 a0_4 a0_5 a0_6))) else (aircheckref24_formed.j0 k true a0_0 a0_1 a0_2 a0_3 a0_4 a0_5 a0_6))) else (aircheckref24_formed.j0 k true a0_0 a0_1 a0_2 a0_3 a0_4 a0_5 a0_6))) = some r := h
 clear h
 have HC3 := Aside0.mk H
 clear H
 go_enter Try.func31, Try.ntmps31
 go_upto_region 1 with (first | ((with_reducible refine gate_dst (N := 2) rfl ?_); refine box_event ?hg (N := 2) ?hd (cs := #[.int .i64 a0_0, .int .i64 a0_1, .int .i64 a0_2, .int .i64 a0_3, .int .i64 a0_4, .int .i64 a0_5, .int .i64 a0_6]) (t := 27) ?hr ?_; (case hd => rfl); (case hg => rfl); (case hr => first | (go_simp; done) | (go_simp; rfl)); intro gb183 hg w4 hbox hb; have n0_ := Aside0.mk (below_step (by repeat (first | (with_reducible first | exact HB.out | apply below_alloc | apply pw_below_drewN | apply below_drew1) | exact HB.out)) hb); have n1_ := Aside0.mk (hbox); have n2_ := Aside0.mk ((by rw [hg]; exact (below_size (by repeat (first | (with_reducible first | exact HB.out | apply below_alloc | apply pw_below_drewN | apply below_drew1) | exact HB.out))) : w.heap.size ≤ gb183)); have n3_ := Aside0.mk ((by rw [hg]; exact (below_size (by repeat (first | (with_reducible first | exact HB.out | apply below_alloc | apply pw_below_drewN | apply below_drew1) | exact HB.out))) : w.heap.size ≤ gb183)); clear HB; have HB := n0_; have BK183 := n1_; have GW183 := n2_; have GE183 := n3_; clear n0_ n1_ n2_ n3_; clear hb hbox hg))
 (try simp only [Act.put, List.setIfInBounds_toArray, List.set_cons_zero, List.set_cons_succ])
 go_cut [43] (fun v43 wc => ∃ (kq : Nat) (x43_2 : Bool), v43 = .bool x43_2 ∧ Aside0 (aircheckref24_formed.j0 kq x43_2 a0_0 a0_1 a0_2 a0_3 a0_4 a0_5 a0_6 = some r) ∧ Aside0 (kq ≤ k) ∧ Aside0 (wc.heap[gb183]? = some (.cells #[.int .i64 a0_0, .int .i64 a0_1, .int .i64 a0_2, .int .i64 a0_3, .int .i64 a0_4, .int .i64 a0_5, .int .i64 a0_6] 27 (0, 0))) ∧ Aside0 (Below w.heap.size w wc))
 case first =>
  have H := HC3.out
  clear HC3
  replace H := Option.bind_eq_some_iff.mp H
  obtain ⟨t184, A50, H⟩ := H
  replace H : (if t184 = true then ((aircheckref24_in.f a0_2 0 (wrap64 (a1 - 1))).bind fun t185 => (if t185 = true then ((aircheckref24_in.f a0_3 0 (wrap64 (a1 - 1))).bind fun t186 => (if t186 = true then (if a0_2 = a0_3 then (aircheckref24_formed.j0 k true a0_0 a0_1 a0_2 a0_3 a0_4 a0_5 a0_6) else ((aircheckref24_in.f a0_4 1 1000000000000).bind fun t187 => (if t187 = true then ((aircheckref24_in.f a0_5 0 999).bind fun t188 => (aircheckref24_formed.j0 k (!t188) a0_0 a0_1 a0_2 a0_3 a0_4 a0_5 a0_6)) else (aircheckref24_formed.j0 k true a0_0 a0_1 a0_2 a0_3 a0_4 a0_5 a0_6)))) else (aircheckref24_formed.j0 k true a0_0 a0_1 a0_2 a0_3 a0_4 a0_5 a0_6))) else (aircheckref24_formed.j0 k true a0_0 a0_1 a0_2 a0_3 a0_4 a0_5 a0_6))) else (aircheckref24_formed.j0 k true a0_0 a0_1 a0_2 a0_3 a0_4 a0_5 a0_6)) = some r := H
  have A5 := Aside0.mk A50
  clear A50
  by_cases c6 : t184 = true
  ·subst c6
   have H1 : ((aircheckref24_in.f a0_2 0 (wrap64 (a1 - 1))).bind fun t185 => (if t185 = true then ((aircheckref24_in.f a0_3 0 (wrap64 (a1 - 1))).bind fun t186 => (if t186 = true then (if a0_2 = a0_3 then (aircheckref24_formed.j0 k true a0_0 a0_1 a0_2 a0_3 a0_4 a0_5 a0_6) else ((aircheckref24_in.f a0_4 1 1000000000000).bind fun t187 => (if t187 = true then ((aircheckref24_in.f a0_5 0 999).bind fun t188 => (aircheckref24_formed.j0 k (!t188) a0_0 a0_1 a0_2 a0_3 a0_4 a0_5 a0_6)) else (aircheckref24_formed.j0 k true a0_0 a0_1 a0_2 a0_3 a0_4 a0_5 a0_6)))) else (aircheckref24_formed.j0 k true a0_0 a0_1 a0_2 a0_3 a0_4 a0_5 a0_6))) else (aircheckref24_formed.j0 k true a0_0 a0_1 a0_2 a0_3 a0_4 a0_5 a0_6))) = some r := by rw [if_pos rfl] at H; exact H
   clear H
   have H := H1
   clear H1
   replace H := Option.bind_eq_some_iff.mp H
   obtain ⟨t185, A70, H⟩ := H
   replace H : (if t185 = true then ((aircheckref24_in.f a0_3 0 (wrap64 (a1 - 1))).bind fun t186 => (if t186 = true then (if a0_2 = a0_3 then (aircheckref24_formed.j0 k true a0_0 a0_1 a0_2 a0_3 a0_4 a0_5 a0_6) else ((aircheckref24_in.f a0_4 1 1000000000000).bind fun t187 => (if t187 = true then ((aircheckref24_in.f a0_5 0 999).bind fun t188 => (aircheckref24_formed.j0 k (!t188) a0_0 a0_1 a0_2 a0_3 a0_4 a0_5 a0_6)) else (aircheckref24_formed.j0 k true a0_0 a0_1 a0_2 a0_3 a0_4 a0_5 a0_6)))) else (aircheckref24_formed.j0 k true a0_0 a0_1 a0_2 a0_3 a0_4 a0_5 a0_6))) else (aircheckref24_formed.j0 k true a0_0 a0_1 a0_2 a0_3 a0_4 a0_5 a0_6)) = some r := H
   have A7 := Aside0.mk A70
   clear A70
   by_cases c8 : t185 = true
   ·subst c8
    have H1 : ((aircheckref24_in.f a0_3 0 (wrap64 (a1 - 1))).bind fun t186 => (if t186 = true then (if a0_2 = a0_3 then (aircheckref24_formed.j0 k true a0_0 a0_1 a0_2 a0_3 a0_4 a0_5 a0_6) else ((aircheckref24_in.f a0_4 1 1000000000000).bind fun t187 => (if t187 = true then ((aircheckref24_in.f a0_5 0 999).bind fun t188 => (aircheckref24_formed.j0 k (!t188) a0_0 a0_1 a0_2 a0_3 a0_4 a0_5 a0_6)) else (aircheckref24_formed.j0 k true a0_0 a0_1 a0_2 a0_3 a0_4 a0_5 a0_6)))) else (aircheckref24_formed.j0 k true a0_0 a0_1 a0_2 a0_3 a0_4 a0_5 a0_6))) = some r := by rw [if_pos rfl] at H; exact H
    clear H
    have H := H1
    clear H1
    replace H := Option.bind_eq_some_iff.mp H
    obtain ⟨t186, A90, H⟩ := H
    replace H : (if t186 = true then (if a0_2 = a0_3 then (aircheckref24_formed.j0 k true a0_0 a0_1 a0_2 a0_3 a0_4 a0_5 a0_6) else ((aircheckref24_in.f a0_4 1 1000000000000).bind fun t187 => (if t187 = true then ((aircheckref24_in.f a0_5 0 999).bind fun t188 => (aircheckref24_formed.j0 k (!t188) a0_0 a0_1 a0_2 a0_3 a0_4 a0_5 a0_6)) else (aircheckref24_formed.j0 k true a0_0 a0_1 a0_2 a0_3 a0_4 a0_5 a0_6)))) else (aircheckref24_formed.j0 k true a0_0 a0_1 a0_2 a0_3 a0_4 a0_5 a0_6)) = some r := H
    have A9 := Aside0.mk A90
    clear A90
    by_cases c10 : t186 = true
    ·subst c10
     have H1 : (if a0_2 = a0_3 then (aircheckref24_formed.j0 k true a0_0 a0_1 a0_2 a0_3 a0_4 a0_5 a0_6) else ((aircheckref24_in.f a0_4 1 1000000000000).bind fun t187 => (if t187 = true then ((aircheckref24_in.f a0_5 0 999).bind fun t188 => (aircheckref24_formed.j0 k (!t188) a0_0 a0_1 a0_2 a0_3 a0_4 a0_5 a0_6)) else (aircheckref24_formed.j0 k true a0_0 a0_1 a0_2 a0_3 a0_4 a0_5 a0_6)))) = some r := by rw [if_pos rfl] at H; exact H
     clear H
     have H := H1
     clear H1
     by_cases c11 : a0_2 = a0_3
     ·rw [if_pos c11] at H
      have c11b0 : (a0_2 == a0_3) = true := beq_iff_eq.mpr c11
      have c11b1 : (a0_2 != a0_3) = false := bne_eq_false_iff_eq.mpr c11
      clear c11
      (first | rw [c11b0] | (simp only [i64_w, i32_w]; rw [c11b0]) | skip)
      have H' := Aside0.mk H
      clear H
      have hcz12_0 : w4.cell? ⟨gb183, 0, none⟩ = some (.int .i64 a0_0) := (blk_cell BK183.out 0).trans rfl
      have hcz12_1 : w4.cell? ⟨gb183, 1, none⟩ = some (.int .i64 a0_1) := (blk_cell BK183.out 1).trans rfl
      have hcz12_2 : w4.cell? ⟨gb183, 2, none⟩ = some (.int .i64 a0_2) := (blk_cell BK183.out 2).trans rfl
      have hcz12_3 : w4.cell? ⟨gb183, 3, none⟩ = some (.int .i64 a0_3) := (blk_cell BK183.out 3).trans rfl
      have hcz12_4 : w4.cell? ⟨gb183, 4, none⟩ = some (.int .i64 a0_4) := (blk_cell BK183.out 4).trans rfl
      have hcz12_5 : w4.cell? ⟨gb183, 5, none⟩ = some (.int .i64 a0_5) := (blk_cell BK183.out 5).trans rfl
      have hcz12_6 : w4.cell? ⟨gb183, 6, none⟩ = some (.int .i64 a0_6) := (blk_cell BK183.out 6).trans rfl
      have hfz12_0 := blk_frozen BK183.out 0
      have hfz12_1 := blk_frozen BK183.out 1
      have hfz12_2 := blk_frozen BK183.out 2
      have hfz12_3 := blk_frozen BK183.out 3
      have hfz12_4 := blk_frozen BK183.out 4
      have hfz12_5 := blk_frozen BK183.out 5
      have hfz12_6 := blk_frozen BK183.out 6
      go_wp2_with (first | ((with_reducible refine gate_callee (f := 30) rfl ?_); refine goesL_ (some 7) rfl rfl Try.func30 (by kernel_rfl) rfl #[.int .i64 a0_1, .int .i64 0, .int .i64 359] rfl (by (try simp only [List.map_toArray, List.map_cons, List.map_nil]); first | done | rfl | (simp only [List.length_drop, List.length_take]; rfl)) ?_; (with_reducible refine (aircheckref24_in.calls a0_1 0 359 true _ A5.out).mono ?_); rintro e w' ⟨rfl, ⟨nd, rfl⟩⟩; refine ⟨_, rfl, ?_⟩) | (go_at_call 30; (with_reducible refine (aircheckref24_in.calls a0_2 0 (wrap64 (a1 - 1)) true _ A7.out).mono ?_); rintro e w' ⟨rfl, ⟨nd, rfl⟩⟩) | (go_at_call 30; (with_reducible refine (aircheckref24_in.calls a0_3 0 (wrap64 (a1 - 1)) true _ A9.out).mono ?_); rintro e w' ⟨rfl, ⟨nd, rfl⟩⟩))
      go_meet
      case rel => exact ⟨_, (true), (by first | rfl | (simp; done) | (simp [*]; done)), H', ⟨by first | omega | exact Nat.le_refl _⟩, ⟨by (with_reducible repeat (first | refine blk_drewN ?_ _ | refine blk_drew ?_ | refine blk_alloc ?_ _)); exact BK183.out⟩, ⟨by repeat (first | (with_reducible first | exact HB.out | apply below_alloc | apply pw_below_drewN | apply below_drew1 | refine below_set ?_ GE183.out) | exact HB.out)⟩⟩
     ·rw [if_neg c11] at H
      have c11b0 : (a0_2 == a0_3) = false := beq_eq_false_iff_ne.mpr c11
      have c11b1 : (a0_2 != a0_3) = true := bne_iff_ne.mpr c11
      (first | rw [c11b0] | (simp only [i64_w, i32_w]; rw [c11b0]) | skip)
      replace H := Option.bind_eq_some_iff.mp H
      obtain ⟨t187, A130, H⟩ := H
      replace H : (if t187 = true then ((aircheckref24_in.f a0_5 0 999).bind fun t188 => (aircheckref24_formed.j0 k (!t188) a0_0 a0_1 a0_2 a0_3 a0_4 a0_5 a0_6)) else (aircheckref24_formed.j0 k true a0_0 a0_1 a0_2 a0_3 a0_4 a0_5 a0_6)) = some r := H
      have A13 := Aside0.mk A130
      clear A130
      by_cases c14 : t187 = true
      ·subst c14
       have H1 : ((aircheckref24_in.f a0_5 0 999).bind fun t188 => (aircheckref24_formed.j0 k (!t188) a0_0 a0_1 a0_2 a0_3 a0_4 a0_5 a0_6)) = some r := by rw [if_pos rfl] at H; exact H
       clear H
       have H := H1
       clear H1
       replace H := Option.bind_eq_some_iff.mp H
       obtain ⟨t188, A150, H⟩ := H
       replace H : (aircheckref24_formed.j0 k (!t188) a0_0 a0_1 a0_2 a0_3 a0_4 a0_5 a0_6) = some r := H
       have A15 := Aside0.mk A150
       clear A150
       have H' := Aside0.mk H
       clear H
       have hcz16_0 : w4.cell? ⟨gb183, 0, none⟩ = some (.int .i64 a0_0) := (blk_cell BK183.out 0).trans rfl
       have hcz16_1 : w4.cell? ⟨gb183, 1, none⟩ = some (.int .i64 a0_1) := (blk_cell BK183.out 1).trans rfl
       have hcz16_2 : w4.cell? ⟨gb183, 2, none⟩ = some (.int .i64 a0_2) := (blk_cell BK183.out 2).trans rfl
       have hcz16_3 : w4.cell? ⟨gb183, 3, none⟩ = some (.int .i64 a0_3) := (blk_cell BK183.out 3).trans rfl
       have hcz16_4 : w4.cell? ⟨gb183, 4, none⟩ = some (.int .i64 a0_4) := (blk_cell BK183.out 4).trans rfl
       have hcz16_5 : w4.cell? ⟨gb183, 5, none⟩ = some (.int .i64 a0_5) := (blk_cell BK183.out 5).trans rfl
       have hcz16_6 : w4.cell? ⟨gb183, 6, none⟩ = some (.int .i64 a0_6) := (blk_cell BK183.out 6).trans rfl
       have hfz16_0 := blk_frozen BK183.out 0
       have hfz16_1 := blk_frozen BK183.out 1
       have hfz16_2 := blk_frozen BK183.out 2
       have hfz16_3 := blk_frozen BK183.out 3
       have hfz16_4 := blk_frozen BK183.out 4
       have hfz16_5 := blk_frozen BK183.out 5
       have hfz16_6 := blk_frozen BK183.out 6
       go_wp2_with (first | ((with_reducible refine gate_callee (f := 30) rfl ?_); refine goesL_ (some 7) rfl rfl Try.func30 (by kernel_rfl) rfl #[.int .i64 a0_1, .int .i64 0, .int .i64 359] rfl (by (try simp only [List.map_toArray, List.map_cons, List.map_nil]); first | done | rfl | (simp only [List.length_drop, List.length_take]; rfl)) ?_; (with_reducible refine (aircheckref24_in.calls a0_1 0 359 true _ A5.out).mono ?_); rintro e w' ⟨rfl, ⟨nd, rfl⟩⟩; refine ⟨_, rfl, ?_⟩) | (go_at_call 30; (with_reducible refine (aircheckref24_in.calls a0_2 0 (wrap64 (a1 - 1)) true _ A7.out).mono ?_); rintro e w' ⟨rfl, ⟨nd, rfl⟩⟩) | (go_at_call 30; (with_reducible refine (aircheckref24_in.calls a0_3 0 (wrap64 (a1 - 1)) true _ A9.out).mono ?_); rintro e w' ⟨rfl, ⟨nd, rfl⟩⟩) | (go_at_call 30; (with_reducible refine (aircheckref24_in.calls a0_4 1 1000000000000 true _ A13.out).mono ?_); rintro e w' ⟨rfl, ⟨nd, rfl⟩⟩) | (go_at_call 30; (with_reducible refine (aircheckref24_in.calls a0_5 0 999 t188 _ A15.out).mono ?_); rintro e w' ⟨rfl, ⟨nd, rfl⟩⟩))
       go_meet
       case rel => exact ⟨_, (!t188), (by first | rfl | (simp; done) | (simp [*]; done)), H', ⟨by first | omega | exact Nat.le_refl _⟩, ⟨by (with_reducible repeat (first | refine blk_drewN ?_ _ | refine blk_drew ?_ | refine blk_alloc ?_ _)); exact BK183.out⟩, ⟨by repeat (first | (with_reducible first | exact HB.out | apply below_alloc | apply pw_below_drewN | apply below_drew1 | refine below_set ?_ GE183.out) | exact HB.out)⟩⟩
      ·replace c14 := Bool.eq_false_iff.mpr c14
       subst c14
       have H1 : (aircheckref24_formed.j0 k true a0_0 a0_1 a0_2 a0_3 a0_4 a0_5 a0_6) = some r := by rw [if_neg (show ¬ (false = true) by decide)] at H; exact H
       clear H
       have H := H1
       clear H1
       have H' := Aside0.mk H
       clear H
       have hcz17_0 : w4.cell? ⟨gb183, 0, none⟩ = some (.int .i64 a0_0) := (blk_cell BK183.out 0).trans rfl
       have hcz17_1 : w4.cell? ⟨gb183, 1, none⟩ = some (.int .i64 a0_1) := (blk_cell BK183.out 1).trans rfl
       have hcz17_2 : w4.cell? ⟨gb183, 2, none⟩ = some (.int .i64 a0_2) := (blk_cell BK183.out 2).trans rfl
       have hcz17_3 : w4.cell? ⟨gb183, 3, none⟩ = some (.int .i64 a0_3) := (blk_cell BK183.out 3).trans rfl
       have hcz17_4 : w4.cell? ⟨gb183, 4, none⟩ = some (.int .i64 a0_4) := (blk_cell BK183.out 4).trans rfl
       have hcz17_5 : w4.cell? ⟨gb183, 5, none⟩ = some (.int .i64 a0_5) := (blk_cell BK183.out 5).trans rfl
       have hcz17_6 : w4.cell? ⟨gb183, 6, none⟩ = some (.int .i64 a0_6) := (blk_cell BK183.out 6).trans rfl
       have hfz17_0 := blk_frozen BK183.out 0
       have hfz17_1 := blk_frozen BK183.out 1
       have hfz17_2 := blk_frozen BK183.out 2
       have hfz17_3 := blk_frozen BK183.out 3
       have hfz17_4 := blk_frozen BK183.out 4
       have hfz17_5 := blk_frozen BK183.out 5
       have hfz17_6 := blk_frozen BK183.out 6
       go_wp2_with (first | ((with_reducible refine gate_callee (f := 30) rfl ?_); refine goesL_ (some 7) rfl rfl Try.func30 (by kernel_rfl) rfl #[.int .i64 a0_1, .int .i64 0, .int .i64 359] rfl (by (try simp only [List.map_toArray, List.map_cons, List.map_nil]); first | done | rfl | (simp only [List.length_drop, List.length_take]; rfl)) ?_; (with_reducible refine (aircheckref24_in.calls a0_1 0 359 true _ A5.out).mono ?_); rintro e w' ⟨rfl, ⟨nd, rfl⟩⟩; refine ⟨_, rfl, ?_⟩) | (go_at_call 30; (with_reducible refine (aircheckref24_in.calls a0_2 0 (wrap64 (a1 - 1)) true _ A7.out).mono ?_); rintro e w' ⟨rfl, ⟨nd, rfl⟩⟩) | (go_at_call 30; (with_reducible refine (aircheckref24_in.calls a0_3 0 (wrap64 (a1 - 1)) true _ A9.out).mono ?_); rintro e w' ⟨rfl, ⟨nd, rfl⟩⟩) | (go_at_call 30; (with_reducible refine (aircheckref24_in.calls a0_4 1 1000000000000 false _ A13.out).mono ?_); rintro e w' ⟨rfl, ⟨nd, rfl⟩⟩))
       go_meet
       case rel => exact ⟨_, (true), (by first | rfl | (simp; done) | (simp [*]; done)), H', ⟨by first | omega | exact Nat.le_refl _⟩, ⟨by (with_reducible repeat (first | refine blk_drewN ?_ _ | refine blk_drew ?_ | refine blk_alloc ?_ _)); exact BK183.out⟩, ⟨by repeat (first | (with_reducible first | exact HB.out | apply below_alloc | apply pw_below_drewN | apply below_drew1 | refine below_set ?_ GE183.out) | exact HB.out)⟩⟩
    ·replace c10 := Bool.eq_false_iff.mpr c10
     subst c10
     have H1 : (aircheckref24_formed.j0 k true a0_0 a0_1 a0_2 a0_3 a0_4 a0_5 a0_6) = some r := by rw [if_neg (show ¬ (false = true) by decide)] at H; exact H
     clear H
     have H := H1
     clear H1
     have H' := Aside0.mk H
     clear H
     have hcz18_0 : w4.cell? ⟨gb183, 0, none⟩ = some (.int .i64 a0_0) := (blk_cell BK183.out 0).trans rfl
     have hcz18_1 : w4.cell? ⟨gb183, 1, none⟩ = some (.int .i64 a0_1) := (blk_cell BK183.out 1).trans rfl
     have hcz18_2 : w4.cell? ⟨gb183, 2, none⟩ = some (.int .i64 a0_2) := (blk_cell BK183.out 2).trans rfl
     have hcz18_3 : w4.cell? ⟨gb183, 3, none⟩ = some (.int .i64 a0_3) := (blk_cell BK183.out 3).trans rfl
     have hcz18_4 : w4.cell? ⟨gb183, 4, none⟩ = some (.int .i64 a0_4) := (blk_cell BK183.out 4).trans rfl
     have hcz18_5 : w4.cell? ⟨gb183, 5, none⟩ = some (.int .i64 a0_5) := (blk_cell BK183.out 5).trans rfl
     have hcz18_6 : w4.cell? ⟨gb183, 6, none⟩ = some (.int .i64 a0_6) := (blk_cell BK183.out 6).trans rfl
     have hfz18_0 := blk_frozen BK183.out 0
     have hfz18_1 := blk_frozen BK183.out 1
     have hfz18_2 := blk_frozen BK183.out 2
     have hfz18_3 := blk_frozen BK183.out 3
     have hfz18_4 := blk_frozen BK183.out 4
     have hfz18_5 := blk_frozen BK183.out 5
     have hfz18_6 := blk_frozen BK183.out 6
     go_wp2_with (first | ((with_reducible refine gate_callee (f := 30) rfl ?_); refine goesL_ (some 7) rfl rfl Try.func30 (by kernel_rfl) rfl #[.int .i64 a0_1, .int .i64 0, .int .i64 359] rfl (by (try simp only [List.map_toArray, List.map_cons, List.map_nil]); first | done | rfl | (simp only [List.length_drop, List.length_take]; rfl)) ?_; (with_reducible refine (aircheckref24_in.calls a0_1 0 359 true _ A5.out).mono ?_); rintro e w' ⟨rfl, ⟨nd, rfl⟩⟩; refine ⟨_, rfl, ?_⟩) | (go_at_call 30; (with_reducible refine (aircheckref24_in.calls a0_2 0 (wrap64 (a1 - 1)) true _ A7.out).mono ?_); rintro e w' ⟨rfl, ⟨nd, rfl⟩⟩) | (go_at_call 30; (with_reducible refine (aircheckref24_in.calls a0_3 0 (wrap64 (a1 - 1)) false _ A9.out).mono ?_); rintro e w' ⟨rfl, ⟨nd, rfl⟩⟩))
     go_meet
     case rel => exact ⟨_, (true), (by first | rfl | (simp; done) | (simp [*]; done)), H', ⟨by first | omega | exact Nat.le_refl _⟩, ⟨by (with_reducible repeat (first | refine blk_drewN ?_ _ | refine blk_drew ?_ | refine blk_alloc ?_ _)); exact BK183.out⟩, ⟨by repeat (first | (with_reducible first | exact HB.out | apply below_alloc | apply pw_below_drewN | apply below_drew1 | refine below_set ?_ GE183.out) | exact HB.out)⟩⟩
   ·replace c8 := Bool.eq_false_iff.mpr c8
    subst c8
    have H1 : (aircheckref24_formed.j0 k true a0_0 a0_1 a0_2 a0_3 a0_4 a0_5 a0_6) = some r := by rw [if_neg (show ¬ (false = true) by decide)] at H; exact H
    clear H
    have H := H1
    clear H1
    have H' := Aside0.mk H
    clear H
    have hcz19_0 : w4.cell? ⟨gb183, 0, none⟩ = some (.int .i64 a0_0) := (blk_cell BK183.out 0).trans rfl
    have hcz19_1 : w4.cell? ⟨gb183, 1, none⟩ = some (.int .i64 a0_1) := (blk_cell BK183.out 1).trans rfl
    have hcz19_2 : w4.cell? ⟨gb183, 2, none⟩ = some (.int .i64 a0_2) := (blk_cell BK183.out 2).trans rfl
    have hcz19_3 : w4.cell? ⟨gb183, 3, none⟩ = some (.int .i64 a0_3) := (blk_cell BK183.out 3).trans rfl
    have hcz19_4 : w4.cell? ⟨gb183, 4, none⟩ = some (.int .i64 a0_4) := (blk_cell BK183.out 4).trans rfl
    have hcz19_5 : w4.cell? ⟨gb183, 5, none⟩ = some (.int .i64 a0_5) := (blk_cell BK183.out 5).trans rfl
    have hcz19_6 : w4.cell? ⟨gb183, 6, none⟩ = some (.int .i64 a0_6) := (blk_cell BK183.out 6).trans rfl
    have hfz19_0 := blk_frozen BK183.out 0
    have hfz19_1 := blk_frozen BK183.out 1
    have hfz19_2 := blk_frozen BK183.out 2
    have hfz19_3 := blk_frozen BK183.out 3
    have hfz19_4 := blk_frozen BK183.out 4
    have hfz19_5 := blk_frozen BK183.out 5
    have hfz19_6 := blk_frozen BK183.out 6
    go_wp2_with (first | ((with_reducible refine gate_callee (f := 30) rfl ?_); refine goesL_ (some 7) rfl rfl Try.func30 (by kernel_rfl) rfl #[.int .i64 a0_1, .int .i64 0, .int .i64 359] rfl (by (try simp only [List.map_toArray, List.map_cons, List.map_nil]); first | done | rfl | (simp only [List.length_drop, List.length_take]; rfl)) ?_; (with_reducible refine (aircheckref24_in.calls a0_1 0 359 true _ A5.out).mono ?_); rintro e w' ⟨rfl, ⟨nd, rfl⟩⟩; refine ⟨_, rfl, ?_⟩) | (go_at_call 30; (with_reducible refine (aircheckref24_in.calls a0_2 0 (wrap64 (a1 - 1)) false _ A7.out).mono ?_); rintro e w' ⟨rfl, ⟨nd, rfl⟩⟩))
    go_meet
    case rel => exact ⟨_, (true), (by first | rfl | (simp; done) | (simp [*]; done)), H', ⟨by first | omega | exact Nat.le_refl _⟩, ⟨by (with_reducible repeat (first | refine blk_drewN ?_ _ | refine blk_drew ?_ | refine blk_alloc ?_ _)); exact BK183.out⟩, ⟨by repeat (first | (with_reducible first | exact HB.out | apply below_alloc | apply pw_below_drewN | apply below_drew1 | refine below_set ?_ GE183.out) | exact HB.out)⟩⟩
  ·replace c6 := Bool.eq_false_iff.mpr c6
   subst c6
   have H1 : (aircheckref24_formed.j0 k true a0_0 a0_1 a0_2 a0_3 a0_4 a0_5 a0_6) = some r := by rw [if_neg (show ¬ (false = true) by decide)] at H; exact H
   clear H
   have H := H1
   clear H1
   have H' := Aside0.mk H
   clear H
   have hcz20_0 : w4.cell? ⟨gb183, 0, none⟩ = some (.int .i64 a0_0) := (blk_cell BK183.out 0).trans rfl
   have hcz20_1 : w4.cell? ⟨gb183, 1, none⟩ = some (.int .i64 a0_1) := (blk_cell BK183.out 1).trans rfl
   have hcz20_2 : w4.cell? ⟨gb183, 2, none⟩ = some (.int .i64 a0_2) := (blk_cell BK183.out 2).trans rfl
   have hcz20_3 : w4.cell? ⟨gb183, 3, none⟩ = some (.int .i64 a0_3) := (blk_cell BK183.out 3).trans rfl
   have hcz20_4 : w4.cell? ⟨gb183, 4, none⟩ = some (.int .i64 a0_4) := (blk_cell BK183.out 4).trans rfl
   have hcz20_5 : w4.cell? ⟨gb183, 5, none⟩ = some (.int .i64 a0_5) := (blk_cell BK183.out 5).trans rfl
   have hcz20_6 : w4.cell? ⟨gb183, 6, none⟩ = some (.int .i64 a0_6) := (blk_cell BK183.out 6).trans rfl
   have hfz20_0 := blk_frozen BK183.out 0
   have hfz20_1 := blk_frozen BK183.out 1
   have hfz20_2 := blk_frozen BK183.out 2
   have hfz20_3 := blk_frozen BK183.out 3
   have hfz20_4 := blk_frozen BK183.out 4
   have hfz20_5 := blk_frozen BK183.out 5
   have hfz20_6 := blk_frozen BK183.out 6
   go_wp2_with (first | ((with_reducible refine gate_callee (f := 30) rfl ?_); refine goesL_ (some 7) rfl rfl Try.func30 (by kernel_rfl) rfl #[.int .i64 a0_1, .int .i64 0, .int .i64 359] rfl (by (try simp only [List.map_toArray, List.map_cons, List.map_nil]); first | done | rfl | (simp only [List.length_drop, List.length_take]; rfl)) ?_; (with_reducible refine (aircheckref24_in.calls a0_1 0 359 false _ A5.out).mono ?_); rintro e w' ⟨rfl, ⟨nd, rfl⟩⟩; refine ⟨_, rfl, ?_⟩))
   go_meet
   case rel => exact ⟨_, (true), (by first | rfl | (simp; done) | (simp [*]; done)), H', ⟨by first | omega | exact Nat.le_refl _⟩, ⟨by (with_reducible repeat (first | refine blk_drewN ?_ _ | refine blk_drew ?_ | refine blk_alloc ?_ _)); exact BK183.out⟩, ⟨by repeat (first | (with_reducible first | exact HB.out | apply below_alloc | apply pw_below_drewN | apply below_drew1 | refine below_set ?_ GE183.out) | exact HB.out)⟩⟩
 case rest =>
  clear HC3
  try clear c1
  try clear p2
  try clear c3
  try clear c6
  try clear p6
  try clear c8
  try clear c10
  try clear c11
  try clear c11b0
  try clear c11b1
  try clear c14
  try clear hcz12_0
  try clear hcz12_1
  try clear hcz12_2
  try clear hcz12_3
  try clear hcz12_4
  try clear hcz12_5
  try clear hcz12_6
  try clear hcz16_0
  try clear hcz16_1
  try clear hcz16_2
  try clear hcz16_3
  try clear hcz16_4
  try clear hcz16_5
  try clear hcz16_6
  try clear hcz17_0
  try clear hcz17_1
  try clear hcz17_2
  try clear hcz17_3
  try clear hcz17_4
  try clear hcz17_5
  try clear hcz17_6
  try clear hcz18_0
  try clear hcz18_1
  try clear hcz18_2
  try clear hcz18_3
  try clear hcz18_4
  try clear hcz18_5
  try clear hcz18_6
  try clear hcz19_0
  try clear hcz19_1
  try clear hcz19_2
  try clear hcz19_3
  try clear hcz19_4
  try clear hcz19_5
  try clear hcz19_6
  try clear hcz20_0
  try clear hcz20_1
  try clear hcz20_2
  try clear hcz20_3
  try clear hcz20_4
  try clear hcz20_5
  try clear hcz20_6
  try clear hfz12_0
  try clear hfz12_1
  try clear hfz12_2
  try clear hfz12_3
  try clear hfz12_4
  try clear hfz12_5
  try clear hfz12_6
  try clear hfz16_0
  try clear hfz16_1
  try clear hfz16_2
  try clear hfz16_3
  try clear hfz16_4
  try clear hfz16_5
  try clear hfz16_6
  try clear hfz17_0
  try clear hfz17_1
  try clear hfz17_2
  try clear hfz17_3
  try clear hfz17_4
  try clear hfz17_5
  try clear hfz17_6
  try clear hfz18_0
  try clear hfz18_1
  try clear hfz18_2
  try clear hfz18_3
  try clear hfz18_4
  try clear hfz18_5
  try clear hfz18_6
  try clear hfz19_0
  try clear hfz19_1
  try clear hfz19_2
  try clear hfz19_3
  try clear hfz19_4
  try clear hfz19_5
  try clear hfz19_6
  try clear hfz20_0
  try clear hfz20_1
  try clear hfz20_2
  try clear hfz20_3
  try clear hfz20_4
  try clear hfz20_5
  try clear hfz20_6
  obtain ⟨kq, x43_2, rfl, HA, HJ2, BK183, HB⟩ := hcut
  cases kq with
  | zero => exact absurd HA.out (by simp [aircheckref24_formed.j0])
  | succ kj2 =>
   have H := HA.out
   clear HA
   simp only [aircheckref24_formed.j0] at H
   by_cases c21 : x43_2 = true
   ·subst c21
    have H1 : (some false) = some r := by rw [if_pos rfl] at H; exact H
    clear H
    have H := H1
    clear H1
    obtain rfl := Option.some.inj H
    go_wp2
    go_ret
    exact ⟨by first | rfl | (simp [errW_none, errW_some] <;> rfl) | (simp [*, errW_none, errW_some] <;> rfl), by repeat (first | (with_reducible first | exact HB.out | apply below_alloc | apply pw_below_drewN | apply below_drew1 | refine below_set ?_ GE183.out) | exact HB.out)⟩
   ·replace c21 := Bool.eq_false_iff.mpr c21
    subst c21
    have H1 : (if a0_0 = 1 then (some (a0_6 == (-1))) else (if a0_0 = 2 then (some (a0_6 == (-1))) else (if a0_0 = 3 then ((aircheckref24_in.f a0_6 0 199).bind fun t189 => (some t189)) else (some false)))) = some r := by rw [if_neg (show ¬ (false = true) by decide)] at H; exact H
    clear H
    have H := H1
    clear H1
    by_cases c22 : a0_0 = 1
    ·rw [if_pos c22] at H
     have c22b0 : (a0_0 == 1) = true := beq_iff_eq.mpr c22
     have c22b1 : (a0_0 != 1) = false := bne_eq_false_iff_eq.mpr c22
     clear c22
     obtain rfl := Option.some.inj H
     have hcz23_0 : wc.cell? ⟨gb183, 0, none⟩ = some (.int .i64 a0_0) := (blk_cell BK183.out 0).trans rfl
     have hcz23_1 : wc.cell? ⟨gb183, 1, none⟩ = some (.int .i64 a0_1) := (blk_cell BK183.out 1).trans rfl
     have hcz23_2 : wc.cell? ⟨gb183, 2, none⟩ = some (.int .i64 a0_2) := (blk_cell BK183.out 2).trans rfl
     have hcz23_3 : wc.cell? ⟨gb183, 3, none⟩ = some (.int .i64 a0_3) := (blk_cell BK183.out 3).trans rfl
     have hcz23_4 : wc.cell? ⟨gb183, 4, none⟩ = some (.int .i64 a0_4) := (blk_cell BK183.out 4).trans rfl
     have hcz23_5 : wc.cell? ⟨gb183, 5, none⟩ = some (.int .i64 a0_5) := (blk_cell BK183.out 5).trans rfl
     have hcz23_6 : wc.cell? ⟨gb183, 6, none⟩ = some (.int .i64 a0_6) := (blk_cell BK183.out 6).trans rfl
     have hfz23_0 := blk_frozen BK183.out 0
     have hfz23_1 := blk_frozen BK183.out 1
     have hfz23_2 := blk_frozen BK183.out 2
     have hfz23_3 := blk_frozen BK183.out 3
     have hfz23_4 := blk_frozen BK183.out 4
     have hfz23_5 := blk_frozen BK183.out 5
     have hfz23_6 := blk_frozen BK183.out 6
     go_wp2
     go_ret
     exact ⟨by first | rfl | (simp [errW_none, errW_some] <;> rfl) | (simp [*, errW_none, errW_some] <;> rfl), by repeat (first | (with_reducible first | exact HB.out | apply below_alloc | apply pw_below_drewN | apply below_drew1 | refine below_set ?_ GE183.out) | exact HB.out)⟩
    ·rw [if_neg c22] at H
     have c22b0 : (a0_0 == 1) = false := beq_eq_false_iff_ne.mpr c22
     have c22b1 : (a0_0 != 1) = true := bne_iff_ne.mpr c22
     by_cases c24 : a0_0 = 2
     ·rw [if_pos c24] at H
      have c24b0 : (a0_0 == 2) = true := beq_iff_eq.mpr c24
      have c24b1 : (a0_0 != 2) = false := bne_eq_false_iff_eq.mpr c24
      clear c24
      obtain rfl := Option.some.inj H
      have hcz25_0 : wc.cell? ⟨gb183, 0, none⟩ = some (.int .i64 a0_0) := (blk_cell BK183.out 0).trans rfl
      have hcz25_1 : wc.cell? ⟨gb183, 1, none⟩ = some (.int .i64 a0_1) := (blk_cell BK183.out 1).trans rfl
      have hcz25_2 : wc.cell? ⟨gb183, 2, none⟩ = some (.int .i64 a0_2) := (blk_cell BK183.out 2).trans rfl
      have hcz25_3 : wc.cell? ⟨gb183, 3, none⟩ = some (.int .i64 a0_3) := (blk_cell BK183.out 3).trans rfl
      have hcz25_4 : wc.cell? ⟨gb183, 4, none⟩ = some (.int .i64 a0_4) := (blk_cell BK183.out 4).trans rfl
      have hcz25_5 : wc.cell? ⟨gb183, 5, none⟩ = some (.int .i64 a0_5) := (blk_cell BK183.out 5).trans rfl
      have hcz25_6 : wc.cell? ⟨gb183, 6, none⟩ = some (.int .i64 a0_6) := (blk_cell BK183.out 6).trans rfl
      have hfz25_0 := blk_frozen BK183.out 0
      have hfz25_1 := blk_frozen BK183.out 1
      have hfz25_2 := blk_frozen BK183.out 2
      have hfz25_3 := blk_frozen BK183.out 3
      have hfz25_4 := blk_frozen BK183.out 4
      have hfz25_5 := blk_frozen BK183.out 5
      have hfz25_6 := blk_frozen BK183.out 6
      go_wp2
      go_ret
      exact ⟨by first | rfl | (simp [errW_none, errW_some] <;> rfl) | (simp [*, errW_none, errW_some] <;> rfl), by repeat (first | (with_reducible first | exact HB.out | apply below_alloc | apply pw_below_drewN | apply below_drew1 | refine below_set ?_ GE183.out) | exact HB.out)⟩
     ·rw [if_neg c24] at H
      have c24b0 : (a0_0 == 2) = false := beq_eq_false_iff_ne.mpr c24
      have c24b1 : (a0_0 != 2) = true := bne_iff_ne.mpr c24
      by_cases c26 : a0_0 = 3
      ·rw [if_pos c26] at H
       have c26b0 : (a0_0 == 3) = true := beq_iff_eq.mpr c26
       have c26b1 : (a0_0 != 3) = false := bne_eq_false_iff_eq.mpr c26
       clear c26
       replace H := Option.bind_eq_some_iff.mp H
       obtain ⟨t189, A270, H⟩ := H
       replace H : (some t189) = some r := H
       have A27 := Aside0.mk A270
       clear A270
       obtain rfl := Option.some.inj H
       have hcz28_0 : wc.cell? ⟨gb183, 0, none⟩ = some (.int .i64 a0_0) := (blk_cell BK183.out 0).trans rfl
       have hcz28_1 : wc.cell? ⟨gb183, 1, none⟩ = some (.int .i64 a0_1) := (blk_cell BK183.out 1).trans rfl
       have hcz28_2 : wc.cell? ⟨gb183, 2, none⟩ = some (.int .i64 a0_2) := (blk_cell BK183.out 2).trans rfl
       have hcz28_3 : wc.cell? ⟨gb183, 3, none⟩ = some (.int .i64 a0_3) := (blk_cell BK183.out 3).trans rfl
       have hcz28_4 : wc.cell? ⟨gb183, 4, none⟩ = some (.int .i64 a0_4) := (blk_cell BK183.out 4).trans rfl
       have hcz28_5 : wc.cell? ⟨gb183, 5, none⟩ = some (.int .i64 a0_5) := (blk_cell BK183.out 5).trans rfl
       have hcz28_6 : wc.cell? ⟨gb183, 6, none⟩ = some (.int .i64 a0_6) := (blk_cell BK183.out 6).trans rfl
       have hfz28_0 := blk_frozen BK183.out 0
       have hfz28_1 := blk_frozen BK183.out 1
       have hfz28_2 := blk_frozen BK183.out 2
       have hfz28_3 := blk_frozen BK183.out 3
       have hfz28_4 := blk_frozen BK183.out 4
       have hfz28_5 := blk_frozen BK183.out 5
       have hfz28_6 := blk_frozen BK183.out 6
       go_wp2_with (first | (go_at_call 30; (with_reducible refine (aircheckref24_in.calls a0_6 0 199 t189 _ A27.out).mono ?_); rintro e w' ⟨rfl, ⟨nd, rfl⟩⟩))
       go_ret
       exact ⟨by first | rfl | (simp [errW_none, errW_some] <;> rfl) | (simp [*, errW_none, errW_some] <;> rfl), by repeat (first | (with_reducible first | exact HB.out | apply below_alloc | apply pw_below_drewN | apply below_drew1 | refine below_set ?_ GE183.out) | exact HB.out)⟩
      ·rw [if_neg c26] at H
       have c26b0 : (a0_0 == 3) = false := beq_eq_false_iff_ne.mpr c26
       have c26b1 : (a0_0 != 3) = true := bne_iff_ne.mpr c26
       obtain rfl := Option.some.inj H
       have hcz29_0 : wc.cell? ⟨gb183, 0, none⟩ = some (.int .i64 a0_0) := (blk_cell BK183.out 0).trans rfl
       have hcz29_1 : wc.cell? ⟨gb183, 1, none⟩ = some (.int .i64 a0_1) := (blk_cell BK183.out 1).trans rfl
       have hcz29_2 : wc.cell? ⟨gb183, 2, none⟩ = some (.int .i64 a0_2) := (blk_cell BK183.out 2).trans rfl
       have hcz29_3 : wc.cell? ⟨gb183, 3, none⟩ = some (.int .i64 a0_3) := (blk_cell BK183.out 3).trans rfl
       have hcz29_4 : wc.cell? ⟨gb183, 4, none⟩ = some (.int .i64 a0_4) := (blk_cell BK183.out 4).trans rfl
       have hcz29_5 : wc.cell? ⟨gb183, 5, none⟩ = some (.int .i64 a0_5) := (blk_cell BK183.out 5).trans rfl
       have hcz29_6 : wc.cell? ⟨gb183, 6, none⟩ = some (.int .i64 a0_6) := (blk_cell BK183.out 6).trans rfl
       have hfz29_0 := blk_frozen BK183.out 0
       have hfz29_1 := blk_frozen BK183.out 1
       have hfz29_2 := blk_frozen BK183.out 2
       have hfz29_3 := blk_frozen BK183.out 3
       have hfz29_4 := blk_frozen BK183.out 4
       have hfz29_5 := blk_frozen BK183.out 5
       have hfz29_6 := blk_frozen BK183.out 6
       go_wp2
       go_ret
       exact ⟨by first | rfl | (simp [errW_none, errW_some] <;> rfl) | (simp [*, errW_none, errW_some] <;> rfl), by repeat (first | (with_reducible first | exact HB.out | apply below_alloc | apply pw_below_drewN | apply below_drew1 | refine below_set ?_ GE183.out) | exact HB.out)⟩
end Go.Proofs.Ytooogaogbffjfaa.PB
end
section
/-
  Pure facts about the reference's Valid.
-/
set_option linter.unusedVariables false
set_option linter.unusedSimpArgs false
namespace Go.Proofs.Ytooogaogbffjfaa.Bk
open Go.RowKit Go.Proofs.YtooogaogbffjfaaW.PrintWords Go.Proofs.YtooogaogbffjfaaW.PrintLast Go.Proofs.YtooogaogbffjfaaW.PrintMore Go.Proofs.Ytooogaogbffjfaa.Ext Go.Proofs.Ytooogaogbffjfaa.PB
theorem in_is (a b c : Int) : aircheckref24_in.f a b c = some (decide (b ≤ a ∧ a ≤ c)) := by
  unfold aircheckref24_in.f
  by_cases h1 : b ≤ a
  · by_cases h2 : a ≤ c
    · simp [h1, h2]
    · simp [h1, h2]
  · simp [h1]
theorem refFormed_is (k : Nat) (n : Int) (p : S27) : aircheckref24_formed.f (k + 1) p.f0 p.f1 p.f2 p.f3 p.f4 p.f5 p.f6 n = some (formedB n p) := by
  have hj (x : Bool) : aircheckref24_formed.j0 (k + 1) x p.f0 p.f1 p.f2 p.f3 p.f4 p.f5 p.f6 = some (!x && decide (((p.f0 = 1 ∨ p.f0 = 2) ∧ p.f6 = -1) ∨ (p.f0 = 3 ∧ 0 ≤ p.f6 ∧ p.f6 ≤ 199))) := by
    rw [aircheckref24_formed.j0]
    cases x with
    | true => simp
    | false =>
      by_cases h1 : p.f0 = 1
      · simp [h1]; rfl
      · by_cases h2 : p.f0 = 2
        · simp [h2]; rfl
        · by_cases h3 : p.f0 = 3
          · simp [h3, in_is]
          · simp [h1, h2, h3]
  unfold aircheckref24_formed.f formedB
  simp only [in_is, Option.bind_some, hj]
  by_cases c1 : 0 ≤ p.f1 ∧ p.f1 ≤ 359
  · by_cases c2 : 0 ≤ p.f2 ∧ p.f2 ≤ wrap64 (n - 1)
    · by_cases c3 : 0 ≤ p.f3 ∧ p.f3 ≤ wrap64 (n - 1)
      · by_cases c4 : p.f2 = p.f3
        · simp [c1, c2, c3, c4]
        · by_cases c5 : 1 ≤ p.f4 ∧ p.f4 ≤ 1000000000000
          · by_cases c6 : 0 ≤ p.f5 ∧ p.f5 ≤ 999
            · simp [c1, c2, c3, c4, c5, c6]
            · simp [c1, c2, c3, c4, c5, c6]
          · simp [c1, c2, c3, c4, c5]
      · simp [c1, c2, c3]
    · simp [c1, c2]
  · simp [c1]
theorem rd_take (ps : List S27) (i j : Nat) (h : j < i) : rd_T27 (ps.take i) (j : Int) = rd_T27 ps (j : Int) := by
  unfold rd_T27
  rw [Int.toNat_natCast, List.getD_eq_getElem?_getD, List.getD_eq_getElem?_getD, List.getElem?_take_of_lt h]
theorem dayOf_take (ps : List S27) (i : Nat) (h : i < ps.length) (h0 : 0 < i) : dayOf (ps.take i) = (rd_T27 ps ((i - 1 : Nat) : Int)).f1 := by
  rw [dayOf_last (ps.take i) (i - 1) (by rw [List.length_take]; omega), rd_take _ _ _ (by omega)]
theorem take_snoc (ps : List S27) (i : Nat) (h : i < ps.length) : ps.take (i + 1) = ps.take i ++ [rd_T27 ps (i : Int)] := by
  unfold rd_T27
  rw [Int.toNat_natCast, List.getD_eq_getElem?_getD, List.take_add_one, List.getElem?_eq_getElem h]
  rfl
theorem w1 {i n : Nat} (h : i < n) (hn : n ≤ 1000000) : wrap64 ((i : Int) + 1) = ((i + 1 : Nat) : Int) := by unfold wrap64; omega
def dayR (ps : List S27) (i : Nat) (p : S27) : Bool := if i = 0 then false else decide (p.f1 < (rd_T27 ps ((i - 1 : Nat) : Int)).f1)
theorem next_is (acc : Int) (ps : List S27) (i : Nat) (p : S27) (hn : ps.length ≤ 200) (hi : i < ps.length) :
    nextB acc (ps.take i) p = (formedB acc p && (!(dayR ps i p) && (decide (p.f0 ≠ 3) || (decide (p.f6 < (i : Int)) && (!((backs (ps.take i)).getD p.f6.toNat false) && isBackB p ((ps.take i).getD p.f6.toNat z27)))))) := by
  have hlen : (ps.take i).length = i := by rw [List.length_take]; omega
  have hday : decide (ps.take i = [] ∨ dayOf (ps.take i) ≤ p.f1) = !(dayR ps i p) := by
    unfold dayR
    by_cases h0 : i = 0
    · subst h0; simp
    · rw [if_neg h0, dayOf_take ps i hi (by omega)]
      have hne : ¬ ps.take i = [] := fun e => by rw [e] at hlen; simp at hlen; omega
      by_cases hc : p.f1 < (rd_T27 ps ((i - 1 : Nat) : Int)).f1
      · rw [decide_eq_true hc, decide_eq_false]
        · rfl
        · exact fun h => h.elim hne (fun h => by omega)
      · rw [decide_eq_false hc, decide_eq_true (Or.inr (by omega))]; rfl
  unfold nextB
  rw [hlen, hday, decide_eq_true (show i < 200 by omega), Bool.true_and]
theorem getD_take (ps : List S27) (i : Nat) (x : Int) (h0 : 0 ≤ x) (h : x < (i : Int)) : (ps.take i).getD x.toNat z27 = rd_T27 ps x := by
  obtain ⟨o, rfl⟩ := Int.eq_ofNat_of_zero_le h0
  have := rd_take ps i o (by omega)
  unfold rd_T27 at this
  exact this
end Go.Proofs.Ytooogaogbffjfaa.Bk
end
