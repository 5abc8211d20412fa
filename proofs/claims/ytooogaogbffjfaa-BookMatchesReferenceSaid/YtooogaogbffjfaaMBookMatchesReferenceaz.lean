import Derived.Test.YtooogaogbffjfaaMBookMatchesReferenceap
import Derived.Test.YtooogaogbffjfaaMBookMatchesReferenceas
/-
  Texts of this claim, one behind the other: what they prove stands above each.
-/
section
-- Written by a program of this session out of the translation's print; not trusted: checked by the kernel.
namespace Go.Proofs.Ytooogaogbffjfaa.PB
open Go.Proofs.Ytooogaogbffjfaa.Ext
open Go.RowKit Go.Proofs.YtooogaogbffjfaaW.PrintWords Go.Proofs.YtooogaogbffjfaaW.PrintLast Go.Proofs.YtooogaogbffjfaaW.PrintMore
attribute [local go_sem] max2_int min2_int max_two min_two max_three min_three max_four min_four   -- for this text's walks alone
set_option linter.unusedVariables false
set_option linter.unusedSimpArgs false
/-! ### aircheckref24_Owed: function 25 -/
mutual
def aircheckref24_Owed.j0 : Nat → Int → Bool → Int → List (S27) → Int → Option (List Int × Int)
 | 0, _, _, _, _, _ => none
 | k + 1, x1, x18, x315000, x315001, x315002 => if x18 = true then (some (([] : List Int), 240)) else (if 0 ≤ x315000 then (if (x315000 : Int).toNat ≤ 35184372088832 then (aircheckref24_Owed.l0 k x1 (List.replicate (x315000 : Int).toNat 0) 0 x315000 x315001 x315002) else (none)) else (none))
def aircheckref24_Owed.l0 : Nat → Int → List Int → Int → Int → List (S27) → Int → Option (List Int × Int)
 | 0, _, _, _, _, _, _ => none
 | k + 1, x1, x6, x7, x315000, x315001, x315002 => if x7 < (x315001.length : Int) then (if 0 ≤ x7 then (if ((rd_T27 x315001 x7).f0) = 3 then (aircheckref24_Owed.j2 k x1 x6 x7 false x315000 x315001 x315002 ((rd_T27 x315001 x7).f0) ((rd_T27 x315001 x7).f1) ((rd_T27 x315001 x7).f2) ((rd_T27 x315001 x7).f3) ((rd_T27 x315001 x7).f4) ((rd_T27 x315001 x7).f5) ((rd_T27 x315001 x7).f6)) else (aircheckref24_Owed.j2 k x1 x6 x7 (((rd_T27 x315001 x7).f5) == x1) x315000 x315001 x315002 ((rd_T27 x315001 x7).f0) ((rd_T27 x315001 x7).f1) ((rd_T27 x315001 x7).f2) ((rd_T27 x315001 x7).f3) ((rd_T27 x315001 x7).f4) ((rd_T27 x315001 x7).f5) ((rd_T27 x315001 x7).f6))) else (none)) else (some (x6, 0))
def aircheckref24_Owed.j2 : Nat → Int → List Int → Int → Bool → Int → List (S27) → Int → Int → Int → Int → Int → Int → Int → Int → Option (List Int × Int)
 | 0, _, _, _, _, _, _, _, _, _, _, _, _, _, _ => none
 | k + 1, x1, x6, x7, x9, x315000, x315001, x315002, x322000, x322001, x322002, x322003, x322004, x322005, x322006 => aircheckref24_Owed.l1 k x1 x6 x7 x9 (wrap64 (x7 + 1)) x315000 x315001 x315002 x322000 x322001 x322002 x322003 x322004 x322005 x322006
def aircheckref24_Owed.l1 : Nat → Int → List Int → Int → Bool → Int → Int → List (S27) → Int → Int → Int → Int → Int → Int → Int → Int → Option (List Int × Int)
 | 0, _, _, _, _, _, _, _, _, _, _, _, _, _, _, _ => none
 | k + 1, x1, x6, x7, x9, x10, x315000, x315001, x315002, x322000, x322001, x322002, x322003, x322004, x322005, x322006 => if x10 < (x315001.length : Int) then (if x9 = true then (if 0 ≤ x10 then (aircheckref24_Owed.l1 k x1 x6 x7 (((rd_T27 x315001 x10).f6) != x7) (wrap64 (x10 + 1)) x315000 x315001 x315002 x322000 x322001 x322002 x322003 x322004 x322005 x322006) else (none)) else (aircheckref24_Owed.l1 k x1 x6 x7 false (wrap64 (x10 + 1)) x315000 x315001 x315002 x322000 x322001 x322002 x322003 x322004 x322005 x322006)) else (if x9 = true then (if 0 ≤ x322003 then (if x322003 < (x6.length : Int) then ((some (x6.set (x322003 : Int).toNat (wrap64 ((rd x6 x322003) + x322004)) : List Int)).bind fun y324 => (if 0 ≤ x322002 then (if x322002 < (x6.length : Int) then (aircheckref24_Owed.l0 k x1 (y324.set (x322002 : Int).toNat (wrap64 ((rd y324 x322002) - x322004))) (wrap64 (x7 + 1)) x315000 x315001 x315002) else (none)) else (none))) else (none)) else (none)) else (aircheckref24_Owed.l0 k x1 x6 (wrap64 (x7 + 1)) x315000 x315001 x315002))
end
def aircheckref24_Owed.f (k : Nat) (a0_0 : Int) (l0_1 : List (S27)) (a0_2 : Int) (a1 : Int) : Option (List Int × Int) := (aircheckref24_Valid.f k a0_0 l0_1 a0_2).bind fun t315 => (if t315 = true then ((aircheckref24_in.f a1 0 999).bind fun t316 => (aircheckref24_Owed.j0 k a1 (!t316) a0_0 l0_1 a0_2)) else (aircheckref24_Owed.j0 k a1 true a0_0 l0_1 a0_2))
def aircheckref24_Owed.T14 : Bool × List (List Nat × List Nat) := (true, [([], []), ([], []), ([1], [1]), ([], []), ([], []), ([4], [4]), ([3, 5], [3, 5]), ([6], [6]), ([], []), ([8], [8]), ([7, 9], [7, 9]), ([0, 2, 0, 1, 2, 3, 4, 5, 6, 7, 8, 9, 10], [0, 2]), ([11, 10, 0, 1, 2, 3, 4, 5, 6, 7, 8, 9, 10], [10, 11])])
def aircheckref24_Owed.B14 : List Nat := [0, 0, 2, 0, 0, 16, 56, 120, 0, 256, 1016, 2047, 4095]
theorem aircheckref24_Owed.tab14 : rtab .any (opsOf Try.f25 14) = aircheckref24_Owed.T14 := by kernel_rfl
theorem aircheckref24_Owed.bits14 : waitsOk aircheckref24_Owed.T14.2 aircheckref24_Owed.B14 = true := by kernel_rfl
def aircheckref24_Owed.T15 : Bool × List (List Nat × List Nat) := (true, [([], []), ([], []), ([1], [1]), ([], []), ([], []), ([4], [4]), ([3, 5], [3, 5]), ([6], [6]), ([], []), ([8], [8]), ([7, 9], [7, 9]), ([0, 2, 0, 1, 2, 3, 4, 5, 6, 7, 8, 9, 10], [0, 2]), ([11, 10, 0, 1, 2, 3, 4, 5, 6, 7, 8, 9, 10], [10, 11])])
def aircheckref24_Owed.B15 : List Nat := [0, 0, 2, 0, 0, 16, 56, 120, 0, 256, 1016, 2047, 4095]
theorem aircheckref24_Owed.tab15 : rtab .any (opsOf Try.f25 15) = aircheckref24_Owed.T15 := by kernel_rfl
theorem aircheckref24_Owed.bits15 : waitsOk aircheckref24_Owed.T15.2 aircheckref24_Owed.B15 = true := by kernel_rfl
set_option maxHeartbeats 8000000 in
set_option maxRecDepth 100000 in
theorem aircheckref24_Owed.calls (k : Nat) (a0_0 : Int) (A0_1 : Option Addr) (c0_1 : Nat) (l0_1 : List (S27)) (a0_2 : Int) (a1 : Int) (r1 : List Int) (r2 : Int) (w : World) (hr0_1 : Kd.C k27 w A0_1 l0_1.length l0_1) (hc0_1 : l0_1.length ≤ c0_1) (h : aircheckref24_Owed.f k a0_0 l0_1 a0_2 a1 = some (r1, r2)) :
  Calls Try.prog 25 #[.agg #[.int .i64 a0_0, .slice A0_1 l0_1.length c0_1, .int .i64 a0_2], .int .i64 a1] w fun e w' => ∃ v0_ : Value, e = .returned (.tuple #[v0_, .int .i64 r2]) ∧ Kd.R (Kd.int .i64) 3 w' w.heap.size (fun _ => True) v0_ r1 ∧ Below w.heap.size w w' := by
 have hu24 := Try.underlying24
 have hu27 := Try.underlying27
 have HR0_1 := Aside0.mk hr0_1
 have HC0_1 := Aside0.mk hc0_1
 clear hr0_1 hc0_1
 have HB := Aside0.mk (Below.refl w.heap.size w)
 have H : ((aircheckref24_Valid.f k a0_0 l0_1 a0_2).bind fun t315 => (if t315 = true then ((aircheckref24_in.f a1 0 999).bind fun t316 => (aircheckref24_Owed.j0 k a1 (!t316) a0_0 l0_1 a0_2)) else (aircheckref24_Owed.j0 k a1 true a0_0 l0_1 a0_2))) = some (r1, r2) := h
 clear h
 have HC3 := Aside0.mk H
 clear H
 go_enter Try.func25, Try.ntmps25
 go_upto_region 1 with (first | ((with_reducible refine gate_dst (N := 2) rfl ?_); refine box_event ?hg (N := 2) ?hd (cs := #[.int .i64 a0_0, .slice A0_1 l0_1.length c0_1, .int .i64 a0_2]) (t := 24) ?hr ?_; (case hd => rfl); (case hg => rfl); (case hr => first | (go_simp; done) | (go_simp; rfl)); intro gb314 hg w4 hbox hb; have n0_ := Aside0.mk (below_step (by repeat (first | (with_reducible first | exact HB.out | apply below_alloc | apply pw_below_drewN | apply below_drew1) | exact HB.out)) hb); have n1_ := Aside0.mk (hbox); have n2_ := Aside0.mk ((by rw [hg]; exact (below_size (by repeat (first | (with_reducible first | exact HB.out | apply below_alloc | apply pw_below_drewN | apply below_drew1) | exact HB.out))) : w.heap.size ≤ gb314)); have n3_ := Aside0.mk ((by rw [hg]; exact (below_size (by repeat (first | (with_reducible first | exact HB.out | apply below_alloc | apply pw_below_drewN | apply below_drew1) | exact HB.out))) : w.heap.size ≤ gb314)); clear HB; have HB := n0_; have BK314 := n1_; have GW314 := n2_; have GE314 := n3_; clear n0_ n1_ n2_ n3_; clear hb hbox hg))
 (try simp only [Act.put, List.setIfInBounds_toArray, List.set_cons_zero, List.set_cons_succ])
 go_cut [18] (fun v18 wc => ∃ (kq : Nat) (x18_2 : Bool), v18 = .bool x18_2 ∧ Aside0 (aircheckref24_Owed.j0 kq a1 x18_2 a0_0 l0_1 a0_2 = some (r1, r2)) ∧ Aside0 (kq ≤ k) ∧ Aside0 (wc.heap[gb314]? = some (.cells #[.int .i64 a0_0, (.slice A0_1 l0_1.length c0_1), .int .i64 a0_2] 24 (0, 0))) ∧ Aside0 (Below w.heap.size w wc))
 case first =>
  have H := HC3.out
  clear HC3
  replace H := Option.bind_eq_some_iff.mp H
  obtain ⟨t315, A50, H⟩ := H
  replace H : (if t315 = true then ((aircheckref24_in.f a1 0 999).bind fun t316 => (aircheckref24_Owed.j0 k a1 (!t316) a0_0 l0_1 a0_2)) else (aircheckref24_Owed.j0 k a1 true a0_0 l0_1 a0_2)) = some (r1, r2) := H
  have A5 := Aside0.mk A50
  clear A50
  by_cases c6 : t315 = true
  ·subst c6
   have H1 : ((aircheckref24_in.f a1 0 999).bind fun t316 => (aircheckref24_Owed.j0 k a1 (!t316) a0_0 l0_1 a0_2)) = some (r1, r2) := by rw [if_pos rfl] at H; exact H
   clear H
   have H := H1
   clear H1
   replace H := Option.bind_eq_some_iff.mp H
   obtain ⟨t316, A70, H⟩ := H
   replace H : (aircheckref24_Owed.j0 k a1 (!t316) a0_0 l0_1 a0_2) = some (r1, r2) := H
   have A7 := Aside0.mk A70
   clear A70
   have H' := Aside0.mk H
   clear H
   have hcz8_0 : w4.cell? ⟨gb314, 0, none⟩ = some (.int .i64 a0_0) := (blk_cell BK314.out 0).trans rfl
   have hcz8_1 : w4.cell? ⟨gb314, 1, none⟩ = some (.slice A0_1 l0_1.length c0_1) := (blk_cell BK314.out 1).trans rfl
   have hcz8_2 : w4.cell? ⟨gb314, 2, none⟩ = some (.int .i64 a0_2) := (blk_cell BK314.out 2).trans rfl
   have hfz8_0 := blk_frozen BK314.out 0
   have hfz8_1 := blk_frozen BK314.out 1
   have hfz8_2 := blk_frozen BK314.out 2
   go_wp2_with (first | ((with_reducible refine gate_callee (f := 12) rfl ?_); refine goesL_ (some 12) rfl rfl Try.func12 (by kernel_rfl) rfl #[.agg #[.int .i64 a0_0, .slice A0_1 l0_1.length c0_1, .int .i64 a0_2]] rfl (by (try simp only [List.map_toArray, List.map_cons, List.map_nil]); first | done | rfl | (simp only [List.length_drop, List.length_take]; rfl)) ?_; (with_reducible refine (aircheckref24_Valid.calls k a0_0 _ _ l0_1 a0_2 true _ ?side1 ?side2 A5.out).mono ?_); (case side1 => repeat (first | exact (Kd.C_below HR0_1.out HB.out) | (with_reducible refine Kd.C_alloc ?_ _) | (with_reducible refine Kd.C_drewN ?_ _) | (with_reducible refine Kd.C_drew ?_))); (case side2 => exact HC0_1.out); rintro e w9 ⟨rfl, hb⟩; refine ⟨_, rfl, ?_⟩; have n0_ := Aside0.mk (blk_below (g := gb314) (o := .cells #[.int .i64 a0_0, .slice A0_1 l0_1.length c0_1, .int .i64 a0_2] 24 (0, 0)) (by (with_reducible repeat (first | refine blk_drewN ?_ _ | refine blk_drew ?_ | refine blk_alloc ?_ _)); exact BK314.out) hb); have n1_ := Aside0.mk (below_step (by repeat (first | (with_reducible first | exact HB.out | apply below_alloc | apply pw_below_drewN | apply below_drew1 | refine below_set ?_ GE314.out) | exact HB.out)) hb); clear BK314; clear HB; have BK314 := n0_; have HB := n1_; clear n0_ n1_; (try clear hb); (try clear hb2); (try clear hk); (try clear hi)) | (go_at_call 30; (with_reducible refine (aircheckref24_in.calls a1 0 999 t316 _ A7.out).mono ?_); rintro e w' ⟨rfl, ⟨nd, rfl⟩⟩))
   go_meet
   case rel => exact ⟨_, (!t316), (by first | rfl | (simp; done) | (simp [*]; done)), H', ⟨by first | omega | exact Nat.le_refl _⟩, ⟨by (with_reducible repeat (first | refine blk_drewN ?_ _ | refine blk_drew ?_ | refine blk_alloc ?_ _)); exact BK314.out⟩, ⟨by repeat (first | (with_reducible first | exact HB.out | apply below_alloc | apply pw_below_drewN | apply below_drew1 | refine below_set ?_ GE314.out) | exact HB.out)⟩⟩
  ·replace c6 := Bool.eq_false_iff.mpr c6
   subst c6
   have H1 : (aircheckref24_Owed.j0 k a1 true a0_0 l0_1 a0_2) = some (r1, r2) := by rw [if_neg (show ¬ (false = true) by decide)] at H; exact H
   clear H
   have H := H1
   clear H1
   have H' := Aside0.mk H
   clear H
   have hcz10_0 : w4.cell? ⟨gb314, 0, none⟩ = some (.int .i64 a0_0) := (blk_cell BK314.out 0).trans rfl
   have hcz10_1 : w4.cell? ⟨gb314, 1, none⟩ = some (.slice A0_1 l0_1.length c0_1) := (blk_cell BK314.out 1).trans rfl
   have hcz10_2 : w4.cell? ⟨gb314, 2, none⟩ = some (.int .i64 a0_2) := (blk_cell BK314.out 2).trans rfl
   have hfz10_0 := blk_frozen BK314.out 0
   have hfz10_1 := blk_frozen BK314.out 1
   have hfz10_2 := blk_frozen BK314.out 2
   go_wp2_with (first | ((with_reducible refine gate_callee (f := 12) rfl ?_); refine goesL_ (some 12) rfl rfl Try.func12 (by kernel_rfl) rfl #[.agg #[.int .i64 a0_0, .slice A0_1 l0_1.length c0_1, .int .i64 a0_2]] rfl (by (try simp only [List.map_toArray, List.map_cons, List.map_nil]); first | done | rfl | (simp only [List.length_drop, List.length_take]; rfl)) ?_; (with_reducible refine (aircheckref24_Valid.calls k a0_0 _ _ l0_1 a0_2 false _ ?side1 ?side2 A5.out).mono ?_); (case side1 => repeat (first | exact (Kd.C_below HR0_1.out HB.out) | (with_reducible refine Kd.C_alloc ?_ _) | (with_reducible refine Kd.C_drewN ?_ _) | (with_reducible refine Kd.C_drew ?_))); (case side2 => exact HC0_1.out); rintro e w11 ⟨rfl, hb⟩; refine ⟨_, rfl, ?_⟩; have n0_ := Aside0.mk (blk_below (g := gb314) (o := .cells #[.int .i64 a0_0, .slice A0_1 l0_1.length c0_1, .int .i64 a0_2] 24 (0, 0)) (by (with_reducible repeat (first | refine blk_drewN ?_ _ | refine blk_drew ?_ | refine blk_alloc ?_ _)); exact BK314.out) hb); have n1_ := Aside0.mk (below_step (by repeat (first | (with_reducible first | exact HB.out | apply below_alloc | apply pw_below_drewN | apply below_drew1 | refine below_set ?_ GE314.out) | exact HB.out)) hb); clear BK314; clear HB; have BK314 := n0_; have HB := n1_; clear n0_ n1_; (try clear hb); (try clear hb2); (try clear hk); (try clear hi)))
   go_meet
   case rel => exact ⟨_, (true), (by first | rfl | (simp; done) | (simp [*]; done)), H', ⟨by first | omega | exact Nat.le_refl _⟩, ⟨by (with_reducible repeat (first | refine blk_drewN ?_ _ | refine blk_drew ?_ | refine blk_alloc ?_ _)); exact BK314.out⟩, ⟨by repeat (first | (with_reducible first | exact HB.out | apply below_alloc | apply pw_below_drewN | apply below_drew1 | refine below_set ?_ GE314.out) | exact HB.out)⟩⟩
 case rest =>
  clear HC3
  try clear c1
  try clear c2
  try clear p2
  try clear c6
  try clear hcz10_0
  try clear hcz10_1
  try clear hcz10_2
  try clear hcz8_0
  try clear hcz8_1
  try clear hcz8_2
  try clear hfz10_0
  try clear hfz10_1
  try clear hfz10_2
  try clear hfz8_0
  try clear hfz8_1
  try clear hfz8_2
  obtain ⟨kq, x18_2, rfl, HA, HJ2, BK314, HB⟩ := hcut
  cases kq with
  | zero => exact absurd HA.out (by simp [aircheckref24_Owed.j0])
  | succ kj2 =>
   have H := HA.out
   clear HA
   simp only [aircheckref24_Owed.j0] at H
   by_cases c12 : x18_2 = true
   ·subst c12
    have H1 : (some (([] : List Int), 240)) = some (r1, r2) := by rw [if_pos rfl] at H; exact H
    clear H
    have H := H1
    clear H1
    simp only [Option.some.injEq, Prod.mk.injEq] at H
    obtain ⟨rfl, rfl⟩ := H
    go_wp2
    go_ret2
    exact ⟨_, by first | rfl | (simp [errW_none, errW_some] <;> rfl) | (simp [*, errW_none, errW_some] <;> rfl), by first | exact Kd.R_nil _ _ _ _ _ | exact Kd.N_nil _ _ _ _ _ | exact Kd.V_nil _ _ _ _ _ | exact Kd.Q_nil _ _ _ _ _ | exact Kd.S_nil _ _ _ _ _, by repeat (first | (with_reducible first | exact HB.out | apply below_alloc | apply pw_below_drewN | apply below_drew1 | refine below_set ?_ GE314.out) | exact HB.out)⟩
   ·replace c12 := Bool.eq_false_iff.mpr c12
    subst c12
    have H1 : (if 0 ≤ a0_0 then (if (a0_0 : Int).toNat ≤ 35184372088832 then (aircheckref24_Owed.l0 kj2 a1 (List.replicate (a0_0 : Int).toNat 0) 0 a0_0 l0_1 a0_2) else (none)) else (none)) = some (r1, r2) := by rw [if_neg (show ¬ (false = true) by decide)] at H; exact H
    clear H
    have H := H1
    clear H1
    by_cases c13 : 0 ≤ a0_0
    ·rw [if_pos c13] at H
     have c13b0 := eq_true c13
     have c13b1 : decide (0 ≤ a0_0) = true := decide_eq_true c13
     clear c13
     by_cases c14 : (a0_0 : Int).toNat ≤ 35184372088832
     ·rw [if_pos c14] at H
      have c14b0 := eq_true c14
      have c14b1 : decide ((a0_0 : Int).toNat ≤ 35184372088832) = true := decide_eq_true c14
      clear c14
      obtain ⟨y317, hy317⟩ : ∃ y_ : List Int, y_ = (List.replicate (a0_0 : Int).toNat 0) := ⟨_, rfl⟩
      replace H : (aircheckref24_Owed.l0 kj2 a1 y317 0 a0_0 l0_1 a0_2) = some (r1, r2) := by first | (rw [hy317]; with_reducible exact H) | (have H2_ := (Option.bind_some _ _).symm.trans H; rw [hy317]; with_reducible exact H2_) | (have H2_ := (Option.bind_some _ _).symm.trans H; with_reducible exact H2_) | with_reducible exact H | (rw [hy317]; exact H) | exact H
      have Ny317 := Aside0.mk hy317
      clear hy317
      have H' := Aside0.mk H
      clear H
      have hcz15_0 : wc.cell? ⟨gb314, 0, none⟩ = some (.int .i64 a0_0) := (blk_cell BK314.out 0).trans rfl
      have hcz15_1 : wc.cell? ⟨gb314, 1, none⟩ = some (.slice A0_1 l0_1.length c0_1) := (blk_cell BK314.out 1).trans rfl
      have hcz15_2 : wc.cell? ⟨gb314, 2, none⟩ = some (.int .i64 a0_2) := (blk_cell BK314.out 2).trans rfl
      have hfz15_0 := blk_frozen BK314.out 0
      have hfz15_1 := blk_frozen BK314.out 1
      have hfz15_2 := blk_frozen BK314.out 2
      go_wp2_with (first | ((with_reducible refine gate_dst (N := 21) rfl ?_); refine Kd.R_make (Kd.int .i64) _ 3 rfl (N := 21) rfl 37 _ _ rfl a0_0 rfl rfl Try.underlying37 (.int .i64 0) 8 info3 rfl (by decide) (by omega) 0 (ok := fun _ => True) (okp := fun _ => True) rfl (fun _ hk => hk) trivial (of_decide_eq_true (by first | (with_reducible assumption) | assumption)) (Nat.le_trans (Nat.mul_le_mul_right _ (of_decide_eq_true (by first | (with_reducible assumption) | assumption) : a0_0.toNat ≤ 35184372088832)) (by omega)) (Below.refl _ _) (Nat.le_refl _) ?_; intro v318 w16 ho17 hb hg_ hnew_; clear hg_ hnew_; (first | rw [← Ny317.out] at ho17 | (simp only [Int.reduceToNat] at ho17; rw [← Ny317.out] at ho17)); have n0_ := Aside0.mk (Kd.R_lower ho17 (below_size (by repeat (first | (with_reducible first | exact HB.out | apply below_alloc | apply pw_below_drewN | apply below_drew1 | refine below_set ?_ GE314.out) | exact HB.out)))); have n1_ := Aside0.mk (blk_below (g := gb314) (o := .cells #[.int .i64 a0_0, .slice A0_1 l0_1.length c0_1, .int .i64 a0_2] 24 (0, 0)) (by (with_reducible repeat (first | refine blk_drewN ?_ _ | refine blk_drew ?_ | refine blk_alloc ?_ _)); exact BK314.out) hb); have n2_ := Aside0.mk (below_step (by repeat (first | (with_reducible first | exact HB.out | apply below_alloc | apply pw_below_drewN | apply below_drew1 | refine below_set ?_ GE314.out) | exact HB.out)) hb); clear BK314; clear HB; have HO319 := n0_; have BK314 := n1_; have HB := n2_; clear n0_ n1_ n2_; clear hb ho17))
      go_loopg [7] kj2 (fun kq v7 w' => ∃ (x6_2 : List Int) (x7_2 : Int), v7 = .int .i64 x7_2 ∧ Aside0 (aircheckref24_Owed.l0 kq a1 x6_2 x7_2 a0_0 l0_1 a0_2 = some (r1, r2)) ∧ Aside0 (kq ≤ kj2) ∧ Aside0 (Kd.R (Kd.int .i64) 3 w' w.heap.size (fun _ => True) v318 x6_2) ∧ Aside0 (w'.heap[gb314]? = some (.cells #[.int .i64 a0_0, (.slice A0_1 l0_1.length c0_1), .int .i64 a0_2] 24 (0, 0))) ∧ Aside0 (Below w.heap.size w w'))
      case atStart => exact ⟨(y317), (0), (by first | rfl | (simp; done) | (simp [*]; done)), H', ⟨Nat.le_refl _⟩, ⟨by (with_reducible repeat (first | apply Kd.R_alloc | apply Kd.R_drewN | apply Kd.R_drew)); exact HO319.out⟩, ⟨by (with_reducible repeat (first | refine blk_drewN ?_ _ | refine blk_drew ?_ | refine blk_alloc ?_ _)); exact BK314.out⟩, ⟨by repeat (first | (with_reducible first | exact HB.out | apply below_alloc | apply pw_below_drewN | apply below_drew1 | refine below_set ?_ GE314.out) | exact HB.out)⟩⟩
      case round =>
       clear H'
       try clear c1
       try clear c2
       try clear p2
       try clear c6
       try clear c12
       try clear c13
       try clear c13b0
       try clear c13b1
       try clear c14
       try clear c14b0
       try clear c14b1
       try clear hcz10_0
       try clear hcz10_1
       try clear hcz10_2
       try clear hcz15_0
       try clear hcz15_1
       try clear hcz15_2
       try clear hcz8_0
       try clear hcz8_1
       try clear hcz8_2
       try clear hfz10_0
       try clear hfz10_1
       try clear hfz10_2
       try clear hfz15_0
       try clear hfz15_1
       try clear hfz15_2
       try clear hfz8_0
       try clear hfz8_1
       try clear hfz8_2
       try clear p2
       obtain ⟨x6_2, x7_2, rfl, HA, HK2, HO_6, BK314, HB⟩ := hrel
       cases gk with
       | zero => exact absurd HA.out (by simp [aircheckref24_Owed.l0])
       | succ k2 =>
        have H := HA.out
        clear HA
        simp only [aircheckref24_Owed.l0] at H
        by_cases c18 : x7_2 < (l0_1.length : Int)
        ·rw [if_pos c18] at H
         have c18b0 : decide (x7_2 < (l0_1.length : Int)) = true := decide_eq_true c18
         clear c18
         by_cases c19 : 0 ≤ x7_2
         ·rw [if_pos c19] at H
          have c19b0 : decide (0 ≤ x7_2) = true := decide_eq_true c19
          clear c19
          have HC20 := Aside0.mk H
          clear H
          have hcz21_0 : wr.cell? ⟨gb314, 0, none⟩ = some (.int .i64 a0_0) := (blk_cell BK314.out 0).trans rfl
          have hcz21_1 : wr.cell? ⟨gb314, 1, none⟩ = some (.slice A0_1 l0_1.length c0_1) := (blk_cell BK314.out 1).trans rfl
          have hcz21_2 : wr.cell? ⟨gb314, 2, none⟩ = some (.int .i64 a0_2) := (blk_cell BK314.out 2).trans rfl
          have hfz21_0 := blk_frozen BK314.out 0
          have hfz21_1 := blk_frozen BK314.out 1
          have hfz21_2 := blk_frozen BK314.out 2
          have p320 : 0 ≤ (x7_2 : Int) := of_decide_eq_true (by first | (with_reducible assumption) | assumption)
          have q320 : x7_2 < (l0_1.length : Int) := of_decide_eq_true (by first | (with_reducible assumption) | assumption)
          obtain ⟨ad320, e320, hx320_0, hx320_1, hx320_2, hx320_3, hx320_4, hx320_5, hx320_6⟩ := at_T27 HR0_1.out x7_2 p320 q320
          cases e320
          replace hx320_0 := (HB.out.cell (World.block_lt_of_cell? w _ hx320_0)).trans hx320_0
          replace hx320_1 := (HB.out.cell (World.block_lt_of_cell? w _ hx320_1)).trans hx320_1
          replace hx320_2 := (HB.out.cell (World.block_lt_of_cell? w _ hx320_2)).trans hx320_2
          replace hx320_3 := (HB.out.cell (World.block_lt_of_cell? w _ hx320_3)).trans hx320_3
          replace hx320_4 := (HB.out.cell (World.block_lt_of_cell? w _ hx320_4)).trans hx320_4
          replace hx320_5 := (HB.out.cell (World.block_lt_of_cell? w _ hx320_5)).trans hx320_5
          replace hx320_6 := (HB.out.cell (World.block_lt_of_cell? w _ hx320_6)).trans hx320_6
          replace p320 := eq_true p320
          replace q320 := eq_true q320
          go_upto_region 8 with (first | ((with_reducible refine gate_dst (N := 8) rfl ?_); refine box_event ?hg (N := 8) ?hd (cs := #[.int .i64 0, .int .i64 0, .int .i64 0, .int .i64 0, .int .i64 0, .int .i64 0, .int .i64 0]) (t := 27) ?hr ?_; (case hd => rfl); (case hg => rfl); (case hr => first | (go_simp; done) | (go_simp; rfl)); intro gb321 hg w22 hbox hb; have n0_ := Aside0.mk (Kd.R_below (by (with_reducible repeat (first | apply Kd.R_alloc | apply Kd.R_drewN | apply Kd.R_drew)); exact HO_6.out) hb); have n1_ := Aside0.mk (blk_below (g := gb314) (o := .cells #[.int .i64 a0_0, .slice (some ad320) l0_1.length c0_1, .int .i64 a0_2] 24 (0, 0)) (by (with_reducible repeat (first | refine blk_drewN ?_ _ | refine blk_drew ?_ | refine blk_alloc ?_ _)); exact BK314.out) hb); have n2_ := Aside0.mk (below_step (by repeat (first | (with_reducible first | exact HB.out | apply below_alloc | apply pw_below_drewN | apply below_drew1 | refine below_set ?_ GE314.out) | exact HB.out)) hb); have n3_ := Aside0.mk (hbox); have n4_ := Aside0.mk ((by rw [hg]; exact (below_size (by repeat (first | (with_reducible first | exact HB.out | apply below_alloc | apply pw_below_drewN | apply below_drew1 | refine below_set ?_ GE314.out) | exact HB.out))) : w.heap.size ≤ gb321)); have n5_ := Aside0.mk ((by rw [hg]; exact (below_size (by repeat (first | (with_reducible first | exact HB.out | apply below_alloc | apply pw_below_drewN | apply below_drew1 | refine below_set ?_ GE314.out) | exact HB.out))) : w.heap.size ≤ gb321)); have n6_ := Aside0.mk ((by rw [hg]; exact Nat.ne_of_lt (blk_lt (g := gb314) (o := .cells #[.int .i64 a0_0, .slice (some ad320) l0_1.length c0_1, .int .i64 a0_2] 24 (0, 0)) (by (with_reducible repeat (first | refine blk_drewN ?_ _ | refine blk_drew ?_ | refine blk_alloc ?_ _)); exact BK314.out)) : gb314 ≠ gb321)); have n7_ := Aside0.mk ((by rw [hg]; exact Nat.ne_of_gt (blk_lt (g := gb314) (o := .cells #[.int .i64 a0_0, .slice (some ad320) l0_1.length c0_1, .int .i64 a0_2] 24 (0, 0)) (by (with_reducible repeat (first | refine blk_drewN ?_ _ | refine blk_drew ?_ | refine blk_alloc ?_ _)); exact BK314.out)) : gb321 ≠ gb314)); clear HO_6; clear BK314; clear HB; have HO_6 := n0_; have BK314 := n1_; have HB := n2_; have BK321 := n3_; have GW321 := n4_; have GE321 := n5_; have NB314_321 := n6_; have NB321_314 := n7_; clear n0_ n1_ n2_ n3_ n4_ n5_ n6_ n7_; clear hb hbox hg; have hnb23 := NB321_314.out; have hnc23 := NB314_321.out; have hcz24_0 : w22.cell? ⟨gb321, 0, none⟩ = some (.int .i64 0) := (blk_cell BK321.out 0).trans rfl; have hcz24_1 : w22.cell? ⟨gb321, 1, none⟩ = some (.int .i64 0) := (blk_cell BK321.out 1).trans rfl; have hcz24_2 : w22.cell? ⟨gb321, 2, none⟩ = some (.int .i64 0) := (blk_cell BK321.out 2).trans rfl; have hcz24_3 : w22.cell? ⟨gb321, 3, none⟩ = some (.int .i64 0) := (blk_cell BK321.out 3).trans rfl; have hcz24_4 : w22.cell? ⟨gb321, 4, none⟩ = some (.int .i64 0) := (blk_cell BK321.out 4).trans rfl; have hcz24_5 : w22.cell? ⟨gb321, 5, none⟩ = some (.int .i64 0) := (blk_cell BK321.out 5).trans rfl; have hcz24_6 : w22.cell? ⟨gb321, 6, none⟩ = some (.int .i64 0) := (blk_cell BK321.out 6).trans rfl; have hfz24_0 := blk_frozen BK321.out 0; have hfz24_1 := blk_frozen BK321.out 1; have hfz24_2 := blk_frozen BK321.out 2; have hfz24_3 := blk_frozen BK321.out 3; have hfz24_4 := blk_frozen BK321.out 4; have hfz24_5 := blk_frozen BK321.out 5; have hfz24_6 := blk_frozen BK321.out 6))
          (try simp only [Act.put, List.setIfInBounds_toArray, List.set_cons_zero, List.set_cons_succ])
          go_cut [9] (fun v9 wc => ∃ (kq : Nat) (x9_19 : Bool), v9 = .bool x9_19 ∧ Aside0 (aircheckref24_Owed.j2 kq a1 x6_2 x7_2 x9_19 a0_0 l0_1 a0_2 ((rd_T27 l0_1 x7_2).f0) ((rd_T27 l0_1 x7_2).f1) ((rd_T27 l0_1 x7_2).f2) ((rd_T27 l0_1 x7_2).f3) ((rd_T27 l0_1 x7_2).f4) ((rd_T27 l0_1 x7_2).f5) ((rd_T27 l0_1 x7_2).f6) = some (r1, r2)) ∧ Aside0 (kq ≤ k2) ∧ Aside0 (Kd.R (Kd.int .i64) 3 wc w.heap.size (fun _ => True) v318 x6_2) ∧ Aside0 (wc.heap[gb314]? = some (.cells #[.int .i64 a0_0, (.slice (some ad320) l0_1.length c0_1), .int .i64 a0_2] 24 (0, 0))) ∧ Aside0 (wc.heap[gb321]? = some (.cells #[.int .i64 ((rd_T27 l0_1 x7_2).f0), .int .i64 ((rd_T27 l0_1 x7_2).f1), .int .i64 ((rd_T27 l0_1 x7_2).f2), .int .i64 ((rd_T27 l0_1 x7_2).f3), .int .i64 ((rd_T27 l0_1 x7_2).f4), .int .i64 ((rd_T27 l0_1 x7_2).f5), .int .i64 ((rd_T27 l0_1 x7_2).f6)] 27 (0, 0))) ∧ Aside0 (Below w.heap.size w wc))
          case first =>
           have H := HC20.out
           clear HC20
           by_cases c25 : ((rd_T27 l0_1 x7_2).f0) = 3
           ·rw [if_pos c25] at H
            have c25b0 : (((rd_T27 l0_1 x7_2).f0) == 3) = true := beq_iff_eq.mpr c25
            have c25b1 : (((rd_T27 l0_1 x7_2).f0) != 3) = false := bne_eq_false_iff_eq.mpr c25
            clear c25
            (first | rw [c25b0] | (simp only [i64_w, i32_w]; rw [c25b0]) | skip)
            have H' := Aside0.mk H
            clear H
            have hnb26 := NB321_314.out
            have hnc26 := NB314_321.out
            have hcz27_0 : w22.cell? ⟨gb321, 0, none⟩ = some (.int .i64 0) := (blk_cell BK321.out 0).trans rfl
            have hcz27_1 : w22.cell? ⟨gb321, 1, none⟩ = some (.int .i64 0) := (blk_cell BK321.out 1).trans rfl
            have hcz27_2 : w22.cell? ⟨gb321, 2, none⟩ = some (.int .i64 0) := (blk_cell BK321.out 2).trans rfl
            have hcz27_3 : w22.cell? ⟨gb321, 3, none⟩ = some (.int .i64 0) := (blk_cell BK321.out 3).trans rfl
            have hcz27_4 : w22.cell? ⟨gb321, 4, none⟩ = some (.int .i64 0) := (blk_cell BK321.out 4).trans rfl
            have hcz27_5 : w22.cell? ⟨gb321, 5, none⟩ = some (.int .i64 0) := (blk_cell BK321.out 5).trans rfl
            have hcz27_6 : w22.cell? ⟨gb321, 6, none⟩ = some (.int .i64 0) := (blk_cell BK321.out 6).trans rfl
            have hfz27_0 := blk_frozen BK321.out 0
            have hfz27_1 := blk_frozen BK321.out 1
            have hfz27_2 := blk_frozen BK321.out 2
            have hfz27_3 := blk_frozen BK321.out 3
            have hfz27_4 := blk_frozen BK321.out 4
            have hfz27_5 := blk_frozen BK321.out 5
            have hfz27_6 := blk_frozen BK321.out 6
            go_wp2
            go_meet
            case rel => exact ⟨_, (false), (by first | rfl | (simp; done) | (simp [*]; done)), H', ⟨by have := HJ2.out; have := HK2.out; first | omega | exact Nat.le_refl _⟩, ⟨by (with_reducible repeat (first | apply Kd.R_alloc | apply Kd.R_drewN | apply Kd.R_drew)); exact Kd.R_mono (Kd.R_far (p := ⟨gb321, 6, none⟩) (Kd.R_far (p := ⟨gb321, 5, none⟩) (Kd.R_far (p := ⟨gb321, 4, none⟩) (Kd.R_far (p := ⟨gb321, 3, none⟩) (Kd.R_far (p := ⟨gb321, 2, none⟩) (Kd.R_far (p := ⟨gb321, 1, none⟩) (Kd.R_far (p := ⟨gb321, 0, none⟩) (Kd.R_types HO_6.out BK321.out (by decide)) (fun _ hk => hk.2) (.int .i64 ((rd_T27 l0_1 x7_2).f0))) (fun _ hk => hk.2) (.int .i64 ((rd_T27 l0_1 x7_2).f1))) (fun _ hk => hk.2) (.int .i64 ((rd_T27 l0_1 x7_2).f2))) (fun _ hk => hk.2) (.int .i64 ((rd_T27 l0_1 x7_2).f3))) (fun _ hk => hk.2) (.int .i64 ((rd_T27 l0_1 x7_2).f4))) (fun _ hk => hk.2) (.int .i64 ((rd_T27 l0_1 x7_2).f5))) (fun _ hk => hk.2) (.int .i64 ((rd_T27 l0_1 x7_2).f6))) (fun _ hk => trivial)⟩, ⟨by (with_reducible repeat (first | refine blk_drewN ?_ _ | refine blk_drew ?_ | refine blk_alloc ?_ _)); refine blk_far ?_ NB314_321.out _; (with_reducible repeat (first | refine blk_drewN ?_ _ | refine blk_drew ?_ | refine blk_alloc ?_ _)); refine blk_far ?_ NB314_321.out _; (with_reducible repeat (first | refine blk_drewN ?_ _ | refine blk_drew ?_ | refine blk_alloc ?_ _)); refine blk_far ?_ NB314_321.out _; (with_reducible repeat (first | refine blk_drewN ?_ _ | refine blk_drew ?_ | refine blk_alloc ?_ _)); refine blk_far ?_ NB314_321.out _; (with_reducible repeat (first | refine blk_drewN ?_ _ | refine blk_drew ?_ | refine blk_alloc ?_ _)); refine blk_far ?_ NB314_321.out _; (with_reducible repeat (first | refine blk_drewN ?_ _ | refine blk_drew ?_ | refine blk_alloc ?_ _)); refine blk_far ?_ NB314_321.out _; (with_reducible repeat (first | refine blk_drewN ?_ _ | refine blk_drew ?_ | refine blk_alloc ?_ _)); refine blk_far ?_ NB314_321.out _; (with_reducible repeat (first | refine blk_drewN ?_ _ | refine blk_drew ?_ | refine blk_alloc ?_ _)); exact BK314.out⟩, ⟨by (with_reducible repeat (first | refine blk_drewN ?_ _ | refine blk_drew ?_ | refine blk_alloc ?_ _)); refine blk_put (cs := #[.int .i64 ((rd_T27 l0_1 x7_2).f0), .int .i64 ((rd_T27 l0_1 x7_2).f1), .int .i64 ((rd_T27 l0_1 x7_2).f2), .int .i64 ((rd_T27 l0_1 x7_2).f3), .int .i64 ((rd_T27 l0_1 x7_2).f4), .int .i64 ((rd_T27 l0_1 x7_2).f5), .int .i64 0]) ?_ 6 _ rfl; (with_reducible repeat (first | refine blk_drewN ?_ _ | refine blk_drew ?_ | refine blk_alloc ?_ _)); refine blk_put (cs := #[.int .i64 ((rd_T27 l0_1 x7_2).f0), .int .i64 ((rd_T27 l0_1 x7_2).f1), .int .i64 ((rd_T27 l0_1 x7_2).f2), .int .i64 ((rd_T27 l0_1 x7_2).f3), .int .i64 ((rd_T27 l0_1 x7_2).f4), .int .i64 0, .int .i64 0]) ?_ 5 _ rfl; (with_reducible repeat (first | refine blk_drewN ?_ _ | refine blk_drew ?_ | refine blk_alloc ?_ _)); refine blk_put (cs := #[.int .i64 ((rd_T27 l0_1 x7_2).f0), .int .i64 ((rd_T27 l0_1 x7_2).f1), .int .i64 ((rd_T27 l0_1 x7_2).f2), .int .i64 ((rd_T27 l0_1 x7_2).f3), .int .i64 0, .int .i64 0, .int .i64 0]) ?_ 4 _ rfl; (with_reducible repeat (first | refine blk_drewN ?_ _ | refine blk_drew ?_ | refine blk_alloc ?_ _)); refine blk_put (cs := #[.int .i64 ((rd_T27 l0_1 x7_2).f0), .int .i64 ((rd_T27 l0_1 x7_2).f1), .int .i64 ((rd_T27 l0_1 x7_2).f2), .int .i64 0, .int .i64 0, .int .i64 0, .int .i64 0]) ?_ 3 _ rfl; (with_reducible repeat (first | refine blk_drewN ?_ _ | refine blk_drew ?_ | refine blk_alloc ?_ _)); refine blk_put (cs := #[.int .i64 ((rd_T27 l0_1 x7_2).f0), .int .i64 ((rd_T27 l0_1 x7_2).f1), .int .i64 0, .int .i64 0, .int .i64 0, .int .i64 0, .int .i64 0]) ?_ 2 _ rfl; (with_reducible repeat (first | refine blk_drewN ?_ _ | refine blk_drew ?_ | refine blk_alloc ?_ _)); refine blk_put (cs := #[.int .i64 ((rd_T27 l0_1 x7_2).f0), .int .i64 0, .int .i64 0, .int .i64 0, .int .i64 0, .int .i64 0, .int .i64 0]) ?_ 1 _ rfl; (with_reducible repeat (first | refine blk_drewN ?_ _ | refine blk_drew ?_ | refine blk_alloc ?_ _)); refine blk_put (cs := #[.int .i64 0, .int .i64 0, .int .i64 0, .int .i64 0, .int .i64 0, .int .i64 0, .int .i64 0]) ?_ 0 _ rfl; (with_reducible repeat (first | refine blk_drewN ?_ _ | refine blk_drew ?_ | refine blk_alloc ?_ _)); exact BK321.out⟩, ⟨by repeat (first | (with_reducible first | exact HB.out | apply below_alloc | apply pw_below_drewN | apply below_drew1 | refine below_set ?_ GE314.out | refine below_set ?_ GE321.out) | exact HB.out)⟩⟩
           ·rw [if_neg c25] at H
            have c25b0 : (((rd_T27 l0_1 x7_2).f0) == 3) = false := beq_eq_false_iff_ne.mpr c25
            have c25b1 : (((rd_T27 l0_1 x7_2).f0) != 3) = true := bne_iff_ne.mpr c25
            (first | rw [c25b0] | (simp only [i64_w, i32_w]; rw [c25b0]) | skip)
            have H' := Aside0.mk H
            clear H
            have hnb28 := NB321_314.out
            have hnc28 := NB314_321.out
            have hcz29_0 : w22.cell? ⟨gb321, 0, none⟩ = some (.int .i64 0) := (blk_cell BK321.out 0).trans rfl
            have hcz29_1 : w22.cell? ⟨gb321, 1, none⟩ = some (.int .i64 0) := (blk_cell BK321.out 1).trans rfl
            have hcz29_2 : w22.cell? ⟨gb321, 2, none⟩ = some (.int .i64 0) := (blk_cell BK321.out 2).trans rfl
            have hcz29_3 : w22.cell? ⟨gb321, 3, none⟩ = some (.int .i64 0) := (blk_cell BK321.out 3).trans rfl
            have hcz29_4 : w22.cell? ⟨gb321, 4, none⟩ = some (.int .i64 0) := (blk_cell BK321.out 4).trans rfl
            have hcz29_5 : w22.cell? ⟨gb321, 5, none⟩ = some (.int .i64 0) := (blk_cell BK321.out 5).trans rfl
            have hcz29_6 : w22.cell? ⟨gb321, 6, none⟩ = some (.int .i64 0) := (blk_cell BK321.out 6).trans rfl
            have hfz29_0 := blk_frozen BK321.out 0
            have hfz29_1 := blk_frozen BK321.out 1
            have hfz29_2 := blk_frozen BK321.out 2
            have hfz29_3 := blk_frozen BK321.out 3
            have hfz29_4 := blk_frozen BK321.out 4
            have hfz29_5 := blk_frozen BK321.out 5
            have hfz29_6 := blk_frozen BK321.out 6
            go_wp2
            go_meet
            case rel => exact ⟨_, ((((rd_T27 l0_1 x7_2).f5) == a1)), (by first | rfl | (simp; done) | (simp [*]; done)), H', ⟨by have := HJ2.out; have := HK2.out; first | omega | exact Nat.le_refl _⟩, ⟨by (with_reducible repeat (first | apply Kd.R_alloc | apply Kd.R_drewN | apply Kd.R_drew)); exact Kd.R_mono (Kd.R_far (p := ⟨gb321, 6, none⟩) (Kd.R_far (p := ⟨gb321, 5, none⟩) (Kd.R_far (p := ⟨gb321, 4, none⟩) (Kd.R_far (p := ⟨gb321, 3, none⟩) (Kd.R_far (p := ⟨gb321, 2, none⟩) (Kd.R_far (p := ⟨gb321, 1, none⟩) (Kd.R_far (p := ⟨gb321, 0, none⟩) (Kd.R_types HO_6.out BK321.out (by decide)) (fun _ hk => hk.2) (.int .i64 ((rd_T27 l0_1 x7_2).f0))) (fun _ hk => hk.2) (.int .i64 ((rd_T27 l0_1 x7_2).f1))) (fun _ hk => hk.2) (.int .i64 ((rd_T27 l0_1 x7_2).f2))) (fun _ hk => hk.2) (.int .i64 ((rd_T27 l0_1 x7_2).f3))) (fun _ hk => hk.2) (.int .i64 ((rd_T27 l0_1 x7_2).f4))) (fun _ hk => hk.2) (.int .i64 ((rd_T27 l0_1 x7_2).f5))) (fun _ hk => hk.2) (.int .i64 ((rd_T27 l0_1 x7_2).f6))) (fun _ hk => trivial)⟩, ⟨by (with_reducible repeat (first | refine blk_drewN ?_ _ | refine blk_drew ?_ | refine blk_alloc ?_ _)); refine blk_far ?_ NB314_321.out _; (with_reducible repeat (first | refine blk_drewN ?_ _ | refine blk_drew ?_ | refine blk_alloc ?_ _)); refine blk_far ?_ NB314_321.out _; (with_reducible repeat (first | refine blk_drewN ?_ _ | refine blk_drew ?_ | refine blk_alloc ?_ _)); refine blk_far ?_ NB314_321.out _; (with_reducible repeat (first | refine blk_drewN ?_ _ | refine blk_drew ?_ | refine blk_alloc ?_ _)); refine blk_far ?_ NB314_321.out _; (with_reducible repeat (first | refine blk_drewN ?_ _ | refine blk_drew ?_ | refine blk_alloc ?_ _)); refine blk_far ?_ NB314_321.out _; (with_reducible repeat (first | refine blk_drewN ?_ _ | refine blk_drew ?_ | refine blk_alloc ?_ _)); refine blk_far ?_ NB314_321.out _; (with_reducible repeat (first | refine blk_drewN ?_ _ | refine blk_drew ?_ | refine blk_alloc ?_ _)); refine blk_far ?_ NB314_321.out _; (with_reducible repeat (first | refine blk_drewN ?_ _ | refine blk_drew ?_ | refine blk_alloc ?_ _)); exact BK314.out⟩, ⟨by (with_reducible repeat (first | refine blk_drewN ?_ _ | refine blk_drew ?_ | refine blk_alloc ?_ _)); refine blk_put (cs := #[.int .i64 ((rd_T27 l0_1 x7_2).f0), .int .i64 ((rd_T27 l0_1 x7_2).f1), .int .i64 ((rd_T27 l0_1 x7_2).f2), .int .i64 ((rd_T27 l0_1 x7_2).f3), .int .i64 ((rd_T27 l0_1 x7_2).f4), .int .i64 ((rd_T27 l0_1 x7_2).f5), .int .i64 0]) ?_ 6 _ rfl; (with_reducible repeat (first | refine blk_drewN ?_ _ | refine blk_drew ?_ | refine blk_alloc ?_ _)); refine blk_put (cs := #[.int .i64 ((rd_T27 l0_1 x7_2).f0), .int .i64 ((rd_T27 l0_1 x7_2).f1), .int .i64 ((rd_T27 l0_1 x7_2).f2), .int .i64 ((rd_T27 l0_1 x7_2).f3), .int .i64 ((rd_T27 l0_1 x7_2).f4), .int .i64 0, .int .i64 0]) ?_ 5 _ rfl; (with_reducible repeat (first | refine blk_drewN ?_ _ | refine blk_drew ?_ | refine blk_alloc ?_ _)); refine blk_put (cs := #[.int .i64 ((rd_T27 l0_1 x7_2).f0), .int .i64 ((rd_T27 l0_1 x7_2).f1), .int .i64 ((rd_T27 l0_1 x7_2).f2), .int .i64 ((rd_T27 l0_1 x7_2).f3), .int .i64 0, .int .i64 0, .int .i64 0]) ?_ 4 _ rfl; (with_reducible repeat (first | refine blk_drewN ?_ _ | refine blk_drew ?_ | refine blk_alloc ?_ _)); refine blk_put (cs := #[.int .i64 ((rd_T27 l0_1 x7_2).f0), .int .i64 ((rd_T27 l0_1 x7_2).f1), .int .i64 ((rd_T27 l0_1 x7_2).f2), .int .i64 0, .int .i64 0, .int .i64 0, .int .i64 0]) ?_ 3 _ rfl; (with_reducible repeat (first | refine blk_drewN ?_ _ | refine blk_drew ?_ | refine blk_alloc ?_ _)); refine blk_put (cs := #[.int .i64 ((rd_T27 l0_1 x7_2).f0), .int .i64 ((rd_T27 l0_1 x7_2).f1), .int .i64 0, .int .i64 0, .int .i64 0, .int .i64 0, .int .i64 0]) ?_ 2 _ rfl; (with_reducible repeat (first | refine blk_drewN ?_ _ | refine blk_drew ?_ | refine blk_alloc ?_ _)); refine blk_put (cs := #[.int .i64 ((rd_T27 l0_1 x7_2).f0), .int .i64 0, .int .i64 0, .int .i64 0, .int .i64 0, .int .i64 0, .int .i64 0]) ?_ 1 _ rfl; (with_reducible repeat (first | refine blk_drewN ?_ _ | refine blk_drew ?_ | refine blk_alloc ?_ _)); refine blk_put (cs := #[.int .i64 0, .int .i64 0, .int .i64 0, .int .i64 0, .int .i64 0, .int .i64 0, .int .i64 0]) ?_ 0 _ rfl; (with_reducible repeat (first | refine blk_drewN ?_ _ | refine blk_drew ?_ | refine blk_alloc ?_ _)); exact BK321.out⟩, ⟨by repeat (first | (with_reducible first | exact HB.out | apply below_alloc | apply pw_below_drewN | apply below_drew1 | refine below_set ?_ GE314.out | refine below_set ?_ GE321.out) | exact HB.out)⟩⟩
          case rest =>
           clear HC20
           try clear c1
           try clear c2
           try clear p2
           try clear p3
           try clear q3
           try clear hx3
           try clear c6
           try clear c12
           try clear c13
           try clear c13b0
           try clear c13b1
           try clear c14
           try clear c14b0
           try clear c14b1
           try clear c18
           try clear c18b0
           try clear c19
           try clear c19b0
           try clear c23
           try clear c25
           try clear c25b0
           try clear c25b1
           try clear c26
           try clear c28
           try clear hcz10_0
           try clear hcz10_1
           try clear hcz10_2
           try clear hcz15_0
           try clear hcz15_1
           try clear hcz15_2
           try clear hcz21_0
           try clear hcz21_1
           try clear hcz21_2
           try clear hcz24_0
           try clear hcz24_1
           try clear hcz24_2
           try clear hcz24_3
           try clear hcz24_4
           try clear hcz24_5
           try clear hcz24_6
           try clear hcz27_0
           try clear hcz27_1
           try clear hcz27_2
           try clear hcz27_3
           try clear hcz27_4
           try clear hcz27_5
           try clear hcz27_6
           try clear hcz29_0
           try clear hcz29_1
           try clear hcz29_2
           try clear hcz29_3
           try clear hcz29_4
           try clear hcz29_5
           try clear hcz29_6
           try clear hcz8_0
           try clear hcz8_1
           try clear hcz8_2
           try clear hfz10_0
           try clear hfz10_1
           try clear hfz10_2
           try clear hfz15_0
           try clear hfz15_1
           try clear hfz15_2
           try clear hfz21_0
           try clear hfz21_1
           try clear hfz21_2
           try clear hfz24_0
           try clear hfz24_1
           try clear hfz24_2
           try clear hfz24_3
           try clear hfz24_4
           try clear hfz24_5
           try clear hfz24_6
           try clear hfz27_0
           try clear hfz27_1
           try clear hfz27_2
           try clear hfz27_3
           try clear hfz27_4
           try clear hfz27_5
           try clear hfz27_6
           try clear hfz29_0
           try clear hfz29_1
           try clear hfz29_2
           try clear hfz29_3
           try clear hfz29_4
           try clear hfz29_5
           try clear hfz29_6
           try clear hfz8_0
           try clear hfz8_1
           try clear hfz8_2
           try clear hx320_0
           try clear hx320_1
           try clear hx320_2
           try clear hx320_3
           try clear hx320_4
           try clear hx320_5
           try clear hx320_6
           try clear p2
           try clear p320
           try clear q320
           obtain ⟨kq, x9_19, rfl, HA, HJ19, HO_6, BK314, BK321, HB⟩ := hcut
           cases kq with
           | zero => exact absurd HA.out (by simp [aircheckref24_Owed.j2])
           | succ kj19 =>
            have H := HA.out
            clear HA
            simp only [aircheckref24_Owed.j2] at H
            have H' := Aside0.mk H
            clear H
            go_wp2
            go_loopg [9, 10] kj19 (fun kq v9 v10 w' => ∃ (x9_4 : Bool) (x10_4 : Int), v9 = .bool x9_4 ∧ v10 = .int .i64 x10_4 ∧ Aside0 (aircheckref24_Owed.l1 kq a1 x6_2 x7_2 x9_4 x10_4 a0_0 l0_1 a0_2 ((rd_T27 l0_1 x7_2).f0) ((rd_T27 l0_1 x7_2).f1) ((rd_T27 l0_1 x7_2).f2) ((rd_T27 l0_1 x7_2).f3) ((rd_T27 l0_1 x7_2).f4) ((rd_T27 l0_1 x7_2).f5) ((rd_T27 l0_1 x7_2).f6) = some (r1, r2)) ∧ Aside0 (kq ≤ kj19) ∧ Aside0 (Kd.R (Kd.int .i64) 3 w' w.heap.size (fun _ => True) v318 x6_2) ∧ Aside0 (w'.heap[gb314]? = some (.cells #[.int .i64 a0_0, (.slice (some ad320) l0_1.length c0_1), .int .i64 a0_2] 24 (0, 0))) ∧ Aside0 (w'.heap[gb321]? = some (.cells #[.int .i64 ((rd_T27 l0_1 x7_2).f0), .int .i64 ((rd_T27 l0_1 x7_2).f1), .int .i64 ((rd_T27 l0_1 x7_2).f2), .int .i64 ((rd_T27 l0_1 x7_2).f3), .int .i64 ((rd_T27 l0_1 x7_2).f4), .int .i64 ((rd_T27 l0_1 x7_2).f5), .int .i64 ((rd_T27 l0_1 x7_2).f6)] 27 (0, 0))) ∧ Aside0 (Below w.heap.size w w'))
            case atStart => exact ⟨(x9_19), (wrap64 (x7_2 + 1)), (by first | rfl | (simp; done) | (simp [*]; done)), (by first | rfl | (simp; done) | (simp [*]; done)), H', ⟨Nat.le_refl _⟩, ⟨by (with_reducible repeat (first | apply Kd.R_alloc | apply Kd.R_drewN | apply Kd.R_drew)); exact HO_6.out⟩, ⟨by (with_reducible repeat (first | refine blk_drewN ?_ _ | refine blk_drew ?_ | refine blk_alloc ?_ _)); exact BK314.out⟩, ⟨by (with_reducible repeat (first | refine blk_drewN ?_ _ | refine blk_drew ?_ | refine blk_alloc ?_ _)); exact BK321.out⟩, ⟨by repeat (first | (with_reducible first | exact HB.out | apply below_alloc | apply pw_below_drewN | apply below_drew1 | refine below_set ?_ GE314.out | refine below_set ?_ GE321.out) | exact HB.out)⟩⟩
            case round =>
             clear H'
             try clear c1
             try clear c2
             try clear p2
             try clear p3
             try clear q3
             try clear hx3
             try clear c6
             try clear p6
             try clear c12
             try clear c13
             try clear c13b0
             try clear c13b1
             try clear c14
             try clear c14b0
             try clear c14b1
             try clear c18
             try clear c18b0
             try clear c19
             try clear c19b0
             try clear c23
             try clear c25
             try clear c25b0
             try clear c25b1
             try clear c26
             try clear c28
             try clear hcz10_0
             try clear hcz10_1
             try clear hcz10_2
             try clear hcz15_0
             try clear hcz15_1
             try clear hcz15_2
             try clear hcz21_0
             try clear hcz21_1
             try clear hcz21_2
             try clear hcz24_0
             try clear hcz24_1
             try clear hcz24_2
             try clear hcz24_3
             try clear hcz24_4
             try clear hcz24_5
             try clear hcz24_6
             try clear hcz27_0
             try clear hcz27_1
             try clear hcz27_2
             try clear hcz27_3
             try clear hcz27_4
             try clear hcz27_5
             try clear hcz27_6
             try clear hcz29_0
             try clear hcz29_1
             try clear hcz29_2
             try clear hcz29_3
             try clear hcz29_4
             try clear hcz29_5
             try clear hcz29_6
             try clear hcz8_0
             try clear hcz8_1
             try clear hcz8_2
             try clear hfz10_0
             try clear hfz10_1
             try clear hfz10_2
             try clear hfz15_0
             try clear hfz15_1
             try clear hfz15_2
             try clear hfz21_0
             try clear hfz21_1
             try clear hfz21_2
             try clear hfz24_0
             try clear hfz24_1
             try clear hfz24_2
             try clear hfz24_3
             try clear hfz24_4
             try clear hfz24_5
             try clear hfz24_6
             try clear hfz27_0
             try clear hfz27_1
             try clear hfz27_2
             try clear hfz27_3
             try clear hfz27_4
             try clear hfz27_5
             try clear hfz27_6
             try clear hfz29_0
             try clear hfz29_1
             try clear hfz29_2
             try clear hfz29_3
             try clear hfz29_4
             try clear hfz29_5
             try clear hfz29_6
             try clear hfz8_0
             try clear hfz8_1
             try clear hfz8_2
             try clear hx320_0
             try clear hx320_1
             try clear hx320_2
             try clear hx320_3
             try clear hx320_4
             try clear hx320_5
             try clear hx320_6
             try clear p2
             try clear p3
             try clear p320
             try clear q3
             try clear q320
             obtain ⟨x9_4, x10_4, rfl, rfl, HA, HK4, HO_6, BK314, BK321, HB⟩ := hrel
             cases gk with
             | zero => exact absurd HA.out (by simp [aircheckref24_Owed.l1])
             | succ k4 =>
              have H := HA.out
              clear HA
              simp only [aircheckref24_Owed.l1] at H
              by_cases c30 : x10_4 < (l0_1.length : Int)
              ·rw [if_pos c30] at H
               have c30b0 : decide (x10_4 < (l0_1.length : Int)) = true := decide_eq_true c30
               clear c30
               by_cases c31 : x9_4 = true
               ·subst c31
                have H1 : (if 0 ≤ x10_4 then (aircheckref24_Owed.l1 k4 a1 x6_2 x7_2 (((rd_T27 l0_1 x10_4).f6) != x7_2) (wrap64 (x10_4 + 1)) a0_0 l0_1 a0_2 ((rd_T27 l0_1 x7_2).f0) ((rd_T27 l0_1 x7_2).f1) ((rd_T27 l0_1 x7_2).f2) ((rd_T27 l0_1 x7_2).f3) ((rd_T27 l0_1 x7_2).f4) ((rd_T27 l0_1 x7_2).f5) ((rd_T27 l0_1 x7_2).f6)) else (none)) = some (r1, r2) := by rw [if_pos rfl] at H; exact H
                clear H
                have H := H1
                clear H1
                by_cases c32 : 0 ≤ x10_4
                ·rw [if_pos c32] at H
                 have c32b0 : decide (0 ≤ x10_4) = true := decide_eq_true c32
                 clear c32
                 have H' := Aside0.mk H
                 clear H
                 have hnb33 := NB314_321.out
                 have hnc33 := NB321_314.out
                 have hcz34_0 : wr.cell? ⟨gb314, 0, none⟩ = some (.int .i64 a0_0) := (blk_cell BK314.out 0).trans rfl
                 have hcz34_1 : wr.cell? ⟨gb314, 1, none⟩ = some (.slice (some ad320) l0_1.length c0_1) := (blk_cell BK314.out 1).trans rfl
                 have hcz34_2 : wr.cell? ⟨gb314, 2, none⟩ = some (.int .i64 a0_2) := (blk_cell BK314.out 2).trans rfl
                 have hfz34_0 := blk_frozen BK314.out 0
                 have hfz34_1 := blk_frozen BK314.out 1
                 have hfz34_2 := blk_frozen BK314.out 2
                 have p322 : 0 ≤ (x10_4 : Int) := of_decide_eq_true (by first | (with_reducible assumption) | assumption)
                 have q322 : x10_4 < (l0_1.length : Int) := of_decide_eq_true (by first | (with_reducible assumption) | assumption)
                 obtain ⟨ad322, e322, hx322_0, hx322_1, hx322_2, hx322_3, hx322_4, hx322_5, hx322_6⟩ := at_T27 HR0_1.out x10_4 p322 q322
                 obtain rfl : ad320 = ad322 := (by injection e322)
                 replace hx322_0 := (HB.out.cell (World.block_lt_of_cell? w _ hx322_0)).trans hx322_0
                 replace hx322_1 := (HB.out.cell (World.block_lt_of_cell? w _ hx322_1)).trans hx322_1
                 replace hx322_2 := (HB.out.cell (World.block_lt_of_cell? w _ hx322_2)).trans hx322_2
                 replace hx322_3 := (HB.out.cell (World.block_lt_of_cell? w _ hx322_3)).trans hx322_3
                 replace hx322_4 := (HB.out.cell (World.block_lt_of_cell? w _ hx322_4)).trans hx322_4
                 replace hx322_5 := (HB.out.cell (World.block_lt_of_cell? w _ hx322_5)).trans hx322_5
                 replace hx322_6 := (HB.out.cell (World.block_lt_of_cell? w _ hx322_6)).trans hx322_6
                 replace p322 := eq_true p322
                 replace q322 := eq_true q322
                 go_wp2
                 go_roundg k4
                 case measure => have := HJ2.out; have := HK2.out; have := HJ19.out; have := HK4.out; omega
                 case rel => exact ⟨((((rd_T27 l0_1 x10_4).f6) != x7_2)), (wrap64 (x10_4 + 1)), (by first | rfl | (simp; done) | (simp [*]; done)), (by first | rfl | (simp; done) | (simp [*]; done)), H', ⟨by have := HJ2.out; have := HK2.out; have := HJ19.out; have := HK4.out; omega⟩, ⟨by (with_reducible repeat (first | apply Kd.R_alloc | apply Kd.R_drewN | apply Kd.R_drew)); exact HO_6.out⟩, ⟨by (with_reducible repeat (first | refine blk_drewN ?_ _ | refine blk_drew ?_ | refine blk_alloc ?_ _)); exact BK314.out⟩, ⟨by (with_reducible repeat (first | refine blk_drewN ?_ _ | refine blk_drew ?_ | refine blk_alloc ?_ _)); exact BK321.out⟩, ⟨by repeat (first | (with_reducible first | exact HB.out | apply below_alloc | apply pw_below_drewN | apply below_drew1 | refine below_set ?_ GE314.out | refine below_set ?_ GE321.out) | exact HB.out)⟩⟩
                ·rw [if_neg c32] at H
                 exact absurd H (by simp)
               ·replace c31 := Bool.eq_false_iff.mpr c31
                subst c31
                have H1 : (aircheckref24_Owed.l1 k4 a1 x6_2 x7_2 false (wrap64 (x10_4 + 1)) a0_0 l0_1 a0_2 ((rd_T27 l0_1 x7_2).f0) ((rd_T27 l0_1 x7_2).f1) ((rd_T27 l0_1 x7_2).f2) ((rd_T27 l0_1 x7_2).f3) ((rd_T27 l0_1 x7_2).f4) ((rd_T27 l0_1 x7_2).f5) ((rd_T27 l0_1 x7_2).f6)) = some (r1, r2) := by rw [if_neg (show ¬ (false = true) by decide)] at H; exact H
                clear H
                have H := H1
                clear H1
                have H' := Aside0.mk H
                clear H
                have hnb35 := NB314_321.out
                have hnc35 := NB321_314.out
                have hcz36_0 : wr.cell? ⟨gb314, 0, none⟩ = some (.int .i64 a0_0) := (blk_cell BK314.out 0).trans rfl
                have hcz36_1 : wr.cell? ⟨gb314, 1, none⟩ = some (.slice (some ad320) l0_1.length c0_1) := (blk_cell BK314.out 1).trans rfl
                have hcz36_2 : wr.cell? ⟨gb314, 2, none⟩ = some (.int .i64 a0_2) := (blk_cell BK314.out 2).trans rfl
                have hfz36_0 := blk_frozen BK314.out 0
                have hfz36_1 := blk_frozen BK314.out 1
                have hfz36_2 := blk_frozen BK314.out 2
                go_wp2
                go_roundg k4
                case measure => have := HJ2.out; have := HK2.out; have := HJ19.out; have := HK4.out; omega
                case rel => exact ⟨(false), (wrap64 (x10_4 + 1)), (by first | rfl | (simp; done) | (simp [*]; done)), (by first | rfl | (simp; done) | (simp [*]; done)), H', ⟨by have := HJ2.out; have := HK2.out; have := HJ19.out; have := HK4.out; omega⟩, ⟨by (with_reducible repeat (first | apply Kd.R_alloc | apply Kd.R_drewN | apply Kd.R_drew)); exact HO_6.out⟩, ⟨by (with_reducible repeat (first | refine blk_drewN ?_ _ | refine blk_drew ?_ | refine blk_alloc ?_ _)); exact BK314.out⟩, ⟨by (with_reducible repeat (first | refine blk_drewN ?_ _ | refine blk_drew ?_ | refine blk_alloc ?_ _)); exact BK321.out⟩, ⟨by repeat (first | (with_reducible first | exact HB.out | apply below_alloc | apply pw_below_drewN | apply below_drew1 | refine below_set ?_ GE314.out | refine below_set ?_ GE321.out) | exact HB.out)⟩⟩
              ·rw [if_neg c30] at H
               have c30b0 : decide (x10_4 < (l0_1.length : Int)) = false := decide_eq_false c30
               clear c30
               by_cases c37 : x9_4 = true
               ·subst c37
                have H1 : (if 0 ≤ ((rd_T27 l0_1 x7_2).f3) then (if ((rd_T27 l0_1 x7_2).f3) < (x6_2.length : Int) then ((some (x6_2.set (((rd_T27 l0_1 x7_2).f3) : Int).toNat (wrap64 ((rd x6_2 ((rd_T27 l0_1 x7_2).f3)) + ((rd_T27 l0_1 x7_2).f4))) : List Int)).bind fun y324 => (if 0 ≤ ((rd_T27 l0_1 x7_2).f2) then (if ((rd_T27 l0_1 x7_2).f2) < (x6_2.length : Int) then (aircheckref24_Owed.l0 k4 a1 (y324.set (((rd_T27 l0_1 x7_2).f2) : Int).toNat (wrap64 ((rd y324 ((rd_T27 l0_1 x7_2).f2)) - ((rd_T27 l0_1 x7_2).f4)))) (wrap64 (x7_2 + 1)) a0_0 l0_1 a0_2) else (none)) else (none))) else (none)) else (none)) = some (r1, r2) := by rw [if_pos rfl] at H; exact H
                clear H
                have H := H1
                clear H1
                by_cases c38 : 0 ≤ ((rd_T27 l0_1 x7_2).f3)
                ·rw [if_pos c38] at H
                 have c38b0 : decide (0 ≤ ((rd_T27 l0_1 x7_2).f3)) = true := decide_eq_true c38
                 clear c38
                 by_cases c39 : ((rd_T27 l0_1 x7_2).f3) < (x6_2.length : Int)
                 ·rw [if_pos c39] at H
                  have c39b0 : decide (((rd_T27 l0_1 x7_2).f3) < (x6_2.length : Int)) = true := decide_eq_true c39
                  clear c39
                  obtain ⟨y324, hy324⟩ : ∃ y_ : List Int, y_ = (x6_2.set (((rd_T27 l0_1 x7_2).f3) : Int).toNat (wrap64 ((rd x6_2 ((rd_T27 l0_1 x7_2).f3)) + ((rd_T27 l0_1 x7_2).f4)))) := ⟨_, rfl⟩
                  replace H : (if 0 ≤ ((rd_T27 l0_1 x7_2).f2) then (if ((rd_T27 l0_1 x7_2).f2) < (x6_2.length : Int) then (aircheckref24_Owed.l0 k4 a1 (y324.set (((rd_T27 l0_1 x7_2).f2) : Int).toNat (wrap64 ((rd y324 ((rd_T27 l0_1 x7_2).f2)) - ((rd_T27 l0_1 x7_2).f4)))) (wrap64 (x7_2 + 1)) a0_0 l0_1 a0_2) else (none)) else (none)) = some (r1, r2) := by first | (rw [hy324]; with_reducible exact H) | (have H2_ := (Option.bind_some _ _).symm.trans H; rw [hy324]; with_reducible exact H2_) | (have H2_ := (Option.bind_some _ _).symm.trans H; with_reducible exact H2_) | with_reducible exact H | (rw [hy324]; exact H) | exact H
                  have Ny324 := Aside0.mk hy324
                  clear hy324
                  by_cases c41 : 0 ≤ ((rd_T27 l0_1 x7_2).f2)
                  ·rw [if_pos c41] at H
                   have c41b0 : decide (0 ≤ ((rd_T27 l0_1 x7_2).f2)) = true := decide_eq_true c41
                   clear c41
                   by_cases c42 : ((rd_T27 l0_1 x7_2).f2) < (x6_2.length : Int)
                   ·rw [if_pos c42] at H
                    have c42b0 : decide (((rd_T27 l0_1 x7_2).f2) < (x6_2.length : Int)) = true := decide_eq_true c42
                    clear c42
                    obtain ⟨y326, hy326⟩ : ∃ y_ : List Int, y_ = (y324.set (((rd_T27 l0_1 x7_2).f2) : Int).toNat (wrap64 ((rd y324 ((rd_T27 l0_1 x7_2).f2)) - ((rd_T27 l0_1 x7_2).f4)))) := ⟨_, rfl⟩
                    replace H : (aircheckref24_Owed.l0 k4 a1 y326 (wrap64 (x7_2 + 1)) a0_0 l0_1 a0_2) = some (r1, r2) := by first | (rw [hy326]; with_reducible exact H) | (have H2_ := (Option.bind_some _ _).symm.trans H; rw [hy326]; with_reducible exact H2_) | (have H2_ := (Option.bind_some _ _).symm.trans H; with_reducible exact H2_) | with_reducible exact H | (rw [hy326]; exact H) | exact H
                    have Ny326 := Aside0.mk hy326
                    clear hy326
                    have H' := Aside0.mk H
                    clear H
                    have hnb44 := NB314_321.out
                    have hnc44 := NB321_314.out
                    have hcz45_0 : wr.cell? ⟨gb314, 0, none⟩ = some (.int .i64 a0_0) := (blk_cell BK314.out 0).trans rfl
                    have hcz45_1 : wr.cell? ⟨gb314, 1, none⟩ = some (.slice (some ad320) l0_1.length c0_1) := (blk_cell BK314.out 1).trans rfl
                    have hcz45_2 : wr.cell? ⟨gb314, 2, none⟩ = some (.int .i64 a0_2) := (blk_cell BK314.out 2).trans rfl
                    have hfz45_0 := blk_frozen BK314.out 0
                    have hfz45_1 := blk_frozen BK314.out 1
                    have hfz45_2 := blk_frozen BK314.out 2
                    try go_wp2
                    have n0_ := Aside0.mk (Kd.R_drew HO_6.out)
                    have n1_ := Aside0.mk (blk_drew BK314.out)
                    have n2_ := Aside0.mk (blk_drew BK321.out)
                    have n3_ := Aside0.mk (below_drew1 HB.out)
                    clear HO_6
                    clear BK314
                    clear BK321
                    clear HB
                    have HO_6 := n0_
                    have BK314 := n1_
                    have BK321 := n2_
                    have HB := n3_
                    clear n0_ n1_ n2_ n3_
                    obtain ⟨Ao47, co47, eo47⟩ := Kd.R_slice HO_6.out
                    (first | subst eo47 | (injection eo47 with f1_ f2_ f3_; have f4_ := f1_.symm; have f5_ := f3_.symm; clear f1_ f2_ f3_; subst f4_; subst f5_))
                    have p323 : 0 ≤ (((rd_T27 l0_1 x7_2).f3) : Int) := of_decide_eq_true (by first | (with_reducible assumption) | assumption)
                    have q323 : ((rd_T27 l0_1 x7_2).f3) < (x6_2.length : Int) := of_decide_eq_true (by first | (with_reducible assumption) | assumption)
                    obtain ⟨ad323, e323, hx323_0⟩ := Kd.at_int (Kd.R_reads' HO_6.out).2.2 ((rd_T27 l0_1 x7_2).f3) p323 q323
                    cases e323
                    replace p323 := eq_true p323
                    replace q323 := eq_true q323
                    have p40 : 0 ≤ (((rd_T27 l0_1 x7_2).f3) : Int) := of_decide_eq_true (by first | (with_reducible assumption) | assumption)
                    have q40 : (((rd_T27 l0_1 x7_2).f3) : Int) < ((x6_2.length : Int) : Int) := of_decide_eq_true (by first | (with_reducible assumption) | assumption)
                    obtain ⟨go40, co40, eo40, gb40, gl40, cl40, HG40⟩ := Kd.R_form HO_6.out (by omega)
                    (first | cases eo40 | (injection eo40 with ea_ en_ ec_; (first | subst ea_ | (injection ea_ with ea_; subst ea_)); subst ec_; clear en_))
                    have GB40 := Aside0.mk gb40
                    have GG40 := Aside0.mk HG40
                    clear gb40 gl40 HG40
                    (first | simp only [add_plain] at hx323_0 | skip)
                    obtain ⟨hx40_0, hf40_0⟩ := Kd.R_celln 0 HO_6.out (((rd_T27 l0_1 x7_2).f3) : Int) p40 q40
                    replace p40 := eq_true p40
                    replace q40 := eq_true q40
                    have HP48 := Kd.R_putn HO_6.out (((rd_T27 l0_1 x7_2).f3) : Int) (wrap64 ((rd x6_2 ((rd_T27 l0_1 x7_2).f3)) + ((rd_T27 l0_1 x7_2).f4)))
                    rw [← Ny324.out] at HP48
                    have HQ48 := Aside0.mk HP48
                    clear HP48
                    refine start_ (n := 13) (S := fun w' => w'.cell? ⟨gb321, 0, none⟩ = some (.int .i64 ((rd_T27 l0_1 x7_2).f0)) ∧ w'.cell? ⟨gb321, 1, none⟩ = some (.int .i64 ((rd_T27 l0_1 x7_2).f1)) ∧ w'.cell? ⟨gb321, 2, none⟩ = some (.int .i64 ((rd_T27 l0_1 x7_2).f2)) ∧ w'.cell? ⟨gb321, 3, none⟩ = some (.int .i64 ((rd_T27 l0_1 x7_2).f3)) ∧ w'.cell? ⟨gb321, 4, none⟩ = some (.int .i64 ((rd_T27 l0_1 x7_2).f4)) ∧ w'.cell? ⟨gb321, 5, none⟩ = some (.int .i64 ((rd_T27 l0_1 x7_2).f5)) ∧ w'.cell? ⟨gb321, 6, none⟩ = some (.int .i64 ((rd_T27 l0_1 x7_2).f6)) ∧ w'.cell? (⟨go40, ((((rd_T27 l0_1 x7_2).f3)) : Int).toNat, none⟩) = some (.int .i64 (rd x6_2 ((rd_T27 l0_1 x7_2).f3)))) (ds := [12]) #[false, false, false, false, false, false, false, false, false, false, false, false, false] (by kernel_rfl) rfl rfl ⟨(blk_cell BK321.out 0).trans rfl, (blk_cell BK321.out 1).trans rfl, (blk_cell BK321.out 2).trans rfl, (blk_cell BK321.out 3).trans rfl, (blk_cell BK321.out 4).trans rfl, (blk_cell BK321.out 5).trans rfl, (blk_cell BK321.out 6).trans rfl, hx323_0⟩ (fun hHeld => ?_); refine with_tabW aircheckref24_Owed.tab14 aircheckref24_Owed.bits14 (fun HT_ HW_ => ?_)
                    generalize wr.drew = w46 at HO_6 BK314 BK321 HB GG40 HQ48 hf40_0 hx323_0 hx40_0 hHeld ⊢
                    refine pure_ (i := 0) (N := some 64) (v := ?_) (a' := ?_) #[true, false, false, false, false, false, false, false, false, false, false, false, false] rfl rfl (any_of HT_.out (by kernel_rfl)) (fun _ _ _ h => h) (Or.inl ⟨by rfl, ?_⟩) ?_ ?_
                    rotate_left
                    ·intro w'
                     go_simp
                     with_reducible rfl
                    rotate_left
                    ·simp only [Act.put, List.setIfInBounds_toArray, List.set_cons_zero, List.set_cons_succ, i64_w, i32_w]
                     rfl
                    refine pure_ (i := 1) (N := some 65) (v := ?_) (a' := ?_) #[true, true, false, false, false, false, false, false, false, false, false, false, false] rfl rfl (any_of HT_.out (by kernel_rfl)) (fun _ _ _ h => h) (Or.inl ⟨by rfl, ?_⟩) ?_ ?_
                    rotate_left
                    ·intro w'
                     go_simp
                     with_reducible rfl
                    rotate_left
                    ·simp only [Act.put, List.setIfInBounds_toArray, List.set_cons_zero, List.set_cons_succ, i64_w, i32_w]
                     rfl
                    refine pure_ (i := 3) (N := some 67) (v := ?_) (a' := ?_) #[true, true, false, true, false, false, false, false, false, false, false, false, false] rfl rfl (any_of HT_.out (by kernel_rfl)) (fun _ _ _ h => h) (Or.inl ⟨by rfl, ?_⟩) ?_ ?_
                    rotate_left
                    ·intro w'
                     go_simp
                     with_reducible rfl
                    rotate_left
                    ·simp only [Act.put, List.setIfInBounds_toArray, List.set_cons_zero, List.set_cons_succ, i64_w, i32_w]
                     rfl
                    refine pure_ (i := 4) (N := some 68) (v := ?_) (a' := ?_) #[true, true, false, true, true, false, false, false, false, false, false, false, false] rfl rfl (any_of HT_.out (by kernel_rfl)) (fun _ _ _ h => h) (Or.inl ⟨by rfl, ?_⟩) ?_ ?_
                    rotate_left
                    ·intro w'
                     go_simp
                     with_reducible rfl
                    rotate_left
                    ·simp only [Act.put, List.setIfInBounds_toArray, List.set_cons_zero, List.set_cons_succ, i64_w, i32_w]
                     rfl
                    refine pure_ (i := 8) (N := some 72) (v := ?_) (a' := ?_) #[true, true, false, true, true, false, false, false, true, false, false, false, false] rfl rfl (any_of HT_.out (by kernel_rfl)) (fun _ _ _ h => h) (Or.inl ⟨by rfl, ?_⟩) ?_ ?_
                    rotate_left
                    ·intro w'
                     go_simp
                     with_reducible rfl
                    rotate_left
                    ·simp only [Act.put, List.setIfInBounds_toArray, List.set_cons_zero, List.set_cons_succ, i64_w, i32_w]
                     rfl
                    refine take_ (i := 2) (N := some 66) (v := ?_) (a' := ?_) #[true, true, true, true, true, false, false, false, true, false, false, false, false] rfl rfl (take_ofW HT_.out HW_.out (by kernel_rfl)) (fun _ _ _ h => h) (Or.inl ⟨by rfl, ?_⟩) hHeld ?_ ?_
                    rotate_left
                    ·rintro w' ⟨s0, s1, s2, s3, s4, s5, s6, s7⟩
                     go_simp
                     with_reducible rfl
                    rotate_left
                    ·simp only [Act.put, List.setIfInBounds_toArray, List.set_cons_zero, List.set_cons_succ, i64_w, i32_w]
                     rfl
                    refine take_ (i := 5) (N := some 69) (v := ?_) (a' := ?_) #[true, true, true, true, true, true, false, false, true, false, false, false, false] rfl rfl (take_ofW HT_.out HW_.out (by kernel_rfl)) (fun _ _ _ h => h) (Or.inl ⟨by rfl, ?_⟩) hHeld ?_ ?_
                    rotate_left
                    ·rintro w' ⟨s0, s1, s2, s3, s4, s5, s6, s7⟩
                     go_simp
                     with_reducible rfl
                    rotate_left
                    ·simp only [Act.put, List.setIfInBounds_toArray, List.set_cons_zero, List.set_cons_succ, i64_w, i32_w]
                     rfl
                    refine pure_ (i := 6) (N := some 70) (v := ?_) (a' := ?_) #[true, true, true, true, true, true, true, false, true, false, false, false, false] rfl rfl (any_of HT_.out (by kernel_rfl)) (fun _ _ _ h => h) (Or.inl ⟨by rfl, ?_⟩) ?_ ?_
                    rotate_left
                    ·intro w'
                     go_simp
                     with_reducible rfl
                    rotate_left
                    ·simp only [Act.put, List.setIfInBounds_toArray, List.set_cons_zero, List.set_cons_succ, i64_w, i32_w]
                     rfl
                    refine take_ (i := 7) (N := some 71) (v := ?_) (a' := ?_) #[true, true, true, true, true, true, true, true, true, false, false, false, false] rfl rfl (take_ofW HT_.out HW_.out (by kernel_rfl)) (fun _ _ _ h => h) (Or.inl ⟨by rfl, ?_⟩) hHeld ?_ ?_
                    rotate_left
                    ·rintro w' ⟨s0, s1, s2, s3, s4, s5, s6, s7⟩
                     go_simp
                     with_reducible rfl
                    rotate_left
                    ·simp only [Act.put, List.setIfInBounds_toArray, List.set_cons_zero, List.set_cons_succ, i64_w, i32_w]
                     rfl
                    refine take_ (i := 9) (N := some 73) (v := ?_) (a' := ?_) #[true, true, true, true, true, true, true, true, true, true, false, false, false] rfl rfl (take_ofW HT_.out HW_.out (by kernel_rfl)) (fun _ _ _ h => h) (Or.inl ⟨by rfl, ?_⟩) hHeld ?_ ?_
                    rotate_left
                    ·rintro w' ⟨s0, s1, s2, s3, s4, s5, s6, s7⟩
                     go_simp
                     with_reducible rfl
                    rotate_left
                    ·simp only [Act.put, List.setIfInBounds_toArray, List.set_cons_zero, List.set_cons_succ, i64_w, i32_w]
                     rfl
                    refine pure_ (i := 10) (N := some 74) (v := ?_) (a' := ?_) #[true, true, true, true, true, true, true, true, true, true, true, false, false] rfl rfl (any_of HT_.out (by kernel_rfl)) (fun _ _ _ h => h) (Or.inl ⟨by rfl, ?_⟩) ?_ ?_
                    rotate_left
                    ·intro w'
                     go_simp
                     with_reducible rfl
                    rotate_left
                    ·simp only [Act.put, List.setIfInBounds_toArray, List.set_cons_zero, List.set_cons_succ, i64_w, i32_w]
                     rfl
                    refine pure_ (i := 11) (N := some 75) (v := ?_) (a' := ?_) #[true, true, true, true, true, true, true, true, true, true, true, true, false] rfl rfl (any_of HT_.out (by kernel_rfl)) (fun _ _ _ h => h) (Or.inl ⟨by rfl, ?_⟩) ?_ ?_
                    rotate_left
                    ·intro w'
                     go_simp
                     with_reducible rfl
                    rotate_left
                    ·simp only [Act.put, List.setIfInBounds_toArray, List.set_cons_zero, List.set_cons_succ, i64_w, i32_w]
                     rfl
                    refine last_ (i := 12) (N := none) #[true, true, true, true, true, true, true, true, true, true, true, true, true] rfl rfl (one_of HT_.out (by kernel_rfl)) (by decide) (fun K hK => ?_)
                    refine skip_ (w1 := ?_) (by rfl) rfl ?_ ?_
                    rotate_left
                    ·go_simp
                     rfl
                    refine hK.out _ _ ?_
                    clear hK K
                    refine done_ (done_of HT_.out (by kernel_rfl)) ?_
                    try go_wp2
                    have n0_ : Aside0 (Kd.R (Kd.int .i64) 3 (w46.setCell ⟨go40, (((rd_T27 l0_1 x7_2).f3) : Int).toNat, none⟩ (.int .i64 (wrap64 ((rd x6_2 ((rd_T27 l0_1 x7_2).f3)) + ((rd_T27 l0_1 x7_2).f4))))) w.heap.size (fun _ => True) (.slice (some ⟨go40, 0, none⟩) x6_2.length co47) y324) := ⟨by (with_reducible repeat (first | apply Kd.R_alloc | apply Kd.R_drewN | apply Kd.R_drew)); exact HQ48.out⟩
                    have n1_ : Aside0 ((w46.setCell ⟨go40, (((rd_T27 l0_1 x7_2).f3) : Int).toNat, none⟩ (.int .i64 (wrap64 ((rd x6_2 ((rd_T27 l0_1 x7_2).f3)) + ((rd_T27 l0_1 x7_2).f4))))).heap[gb314]? = some (.cells #[.int .i64 a0_0, .slice (some ad320) l0_1.length c0_1, .int .i64 a0_2] 24 (0, 0))) := ⟨by (with_reducible repeat (first | refine blk_drewN ?_ _ | refine blk_drew ?_ | refine blk_alloc ?_ _)); refine blk_far ?_ (by have h_ := Kd.R_ne HO_6.out BK314.out (by decide); intro e_; exact h_ (by rw [e_]; rfl)) _; (with_reducible repeat (first | refine blk_drewN ?_ _ | refine blk_drew ?_ | refine blk_alloc ?_ _)); exact BK314.out⟩
                    have n2_ : Aside0 ((w46.setCell ⟨go40, (((rd_T27 l0_1 x7_2).f3) : Int).toNat, none⟩ (.int .i64 (wrap64 ((rd x6_2 ((rd_T27 l0_1 x7_2).f3)) + ((rd_T27 l0_1 x7_2).f4))))).heap[gb321]? = some (.cells #[.int .i64 ((rd_T27 l0_1 x7_2).f0), .int .i64 ((rd_T27 l0_1 x7_2).f1), .int .i64 ((rd_T27 l0_1 x7_2).f2), .int .i64 ((rd_T27 l0_1 x7_2).f3), .int .i64 ((rd_T27 l0_1 x7_2).f4), .int .i64 ((rd_T27 l0_1 x7_2).f5), .int .i64 ((rd_T27 l0_1 x7_2).f6)] 27 (0, 0))) := ⟨by (with_reducible repeat (first | refine blk_drewN ?_ _ | refine blk_drew ?_ | refine blk_alloc ?_ _)); refine blk_far ?_ (by have h_ := Kd.R_ne HO_6.out BK321.out (by decide); intro e_; exact h_ (by rw [e_]; rfl)) _; (with_reducible repeat (first | refine blk_drewN ?_ _ | refine blk_drew ?_ | refine blk_alloc ?_ _)); exact BK321.out⟩
                    have n3_ : Aside0 (Below w.heap.size w (w46.setCell ⟨go40, (((rd_T27 l0_1 x7_2).f3) : Int).toNat, none⟩ (.int .i64 (wrap64 ((rd x6_2 ((rd_T27 l0_1 x7_2).f3)) + ((rd_T27 l0_1 x7_2).f4)))))) := ⟨by repeat (first | (with_reducible first | exact HB.out | apply below_alloc | apply pw_below_drewN | apply below_drew1 | refine below_set ?_ GB40.out | refine below_set ?_ GE314.out | refine below_set ?_ GE321.out) | exact HB.out)⟩
                    (try clear HO_6)
                    (try clear BK314)
                    (try clear BK321)
                    (try clear HB)
                    generalize (w46.setCell ⟨go40, (((rd_T27 l0_1 x7_2).f3) : Int).toNat, none⟩ (.int .i64 (wrap64 ((rd x6_2 ((rd_T27 l0_1 x7_2).f3)) + ((rd_T27 l0_1 x7_2).f4))))) = w49 at n0_ n1_ n2_ n3_ ⊢
                    have HO_6 := n0_
                    have BK314 := n1_
                    have BK321 := n2_
                    have HB := n3_
                    clear n0_ n1_ n2_ n3_
                    have n0_ := Aside0.mk (Kd.R_drew HO_6.out)
                    have n1_ := Aside0.mk (blk_drew BK314.out)
                    have n2_ := Aside0.mk (blk_drew BK321.out)
                    have n3_ := Aside0.mk (below_drew1 HB.out)
                    clear HO_6
                    clear BK314
                    clear BK321
                    clear HB
                    have HO_6 := n0_
                    have BK314 := n1_
                    have BK321 := n2_
                    have HB := n3_
                    clear n0_ n1_ n2_ n3_
                    have p325 : 0 ≤ (((rd_T27 l0_1 x7_2).f2) : Int) := of_decide_eq_true (by first | (with_reducible assumption) | assumption)
                    have q325 : ((rd_T27 l0_1 x7_2).f2) < (y324.length : Int) := (by have h_ : (((rd_T27 l0_1 x7_2).f2) : Int) < ((x6_2.length : Int) : Int) := of_decide_eq_true (by first | (with_reducible assumption) | assumption); first | (have e_ := (Kd.R_reads' HO_6.out).1; omega) | simpa only [Ny324.out, List.length_set] using h_)
                    have ql325 : ((((rd_T27 l0_1 x7_2).f2) : Int) < ((x6_2.length : Int) : Int)) = True := eq_true (of_decide_eq_true (by first | (with_reducible assumption) | assumption))
                    obtain ⟨ad325, e325, hx325_0⟩ := Kd.at_int (Kd.R_reads' HO_6.out).2.2 ((rd_T27 l0_1 x7_2).f2) p325 q325
                    obtain rfl : (⟨go40, 0, none⟩ : Addr) = ad325 := (by injection e325)
                    (first | simp only [add_plain] at hx325_0 | simp only [add_at] at hx325_0 | simp only [Addr.add, Nat.zero_add] at hx325_0 | skip)
                    replace p325 := eq_true p325
                    replace q325 := eq_true q325
                    have p43 : 0 ≤ (((rd_T27 l0_1 x7_2).f2) : Int) := of_decide_eq_true (by first | (with_reducible assumption) | assumption)
                    have q43 : (((rd_T27 l0_1 x7_2).f2) : Int) < ((x6_2.length : Int) : Int) := of_decide_eq_true (by first | (with_reducible assumption) | assumption)
                    obtain ⟨hx43_0, hf43_0⟩ := Kd.R_celln 0 HO_6.out (((rd_T27 l0_1 x7_2).f2) : Int) p43 q43
                    replace p43 := eq_true p43
                    replace q43 := eq_true q43
                    have HP51 := Kd.R_putn HO_6.out (((rd_T27 l0_1 x7_2).f2) : Int) (wrap64 ((rd y324 ((rd_T27 l0_1 x7_2).f2)) - ((rd_T27 l0_1 x7_2).f4)))
                    rw [← Ny326.out] at HP51
                    have HQ51 := Aside0.mk HP51
                    clear HP51
                    refine start_ (n := 13) (S := fun w' => w'.cell? ⟨gb321, 0, none⟩ = some (.int .i64 ((rd_T27 l0_1 x7_2).f0)) ∧ w'.cell? ⟨gb321, 1, none⟩ = some (.int .i64 ((rd_T27 l0_1 x7_2).f1)) ∧ w'.cell? ⟨gb321, 2, none⟩ = some (.int .i64 ((rd_T27 l0_1 x7_2).f2)) ∧ w'.cell? ⟨gb321, 3, none⟩ = some (.int .i64 ((rd_T27 l0_1 x7_2).f3)) ∧ w'.cell? ⟨gb321, 4, none⟩ = some (.int .i64 ((rd_T27 l0_1 x7_2).f4)) ∧ w'.cell? ⟨gb321, 5, none⟩ = some (.int .i64 ((rd_T27 l0_1 x7_2).f5)) ∧ w'.cell? ⟨gb321, 6, none⟩ = some (.int .i64 ((rd_T27 l0_1 x7_2).f6)) ∧ w'.cell? ⟨go40, (((rd_T27 l0_1 x7_2).f2)).toNat, none⟩ = some (.int .i64 (rd y324 ((rd_T27 l0_1 x7_2).f2)))) (ds := [12]) #[false, false, false, false, false, false, false, false, false, false, false, false, false] (by kernel_rfl) rfl rfl ⟨(blk_cell BK321.out 0).trans rfl, (blk_cell BK321.out 1).trans rfl, (blk_cell BK321.out 2).trans rfl, (blk_cell BK321.out 3).trans rfl, (blk_cell BK321.out 4).trans rfl, (blk_cell BK321.out 5).trans rfl, (blk_cell BK321.out 6).trans rfl, hx325_0⟩ (fun hHeld => ?_); refine with_tabW aircheckref24_Owed.tab15 aircheckref24_Owed.bits15 (fun HT_ HW_ => ?_)
                    generalize w49.drew = w50 at HO_6 BK314 BK321 HB HQ48 HQ51 hf43_0 hx325_0 hx43_0 hHeld ⊢
                    refine pure_ (i := 0) (N := some 76) (v := ?_) (a' := ?_) #[true, false, false, false, false, false, false, false, false, false, false, false, false] rfl rfl (any_of HT_.out (by kernel_rfl)) (fun _ _ _ h => h) (Or.inl ⟨by rfl, ?_⟩) ?_ ?_
                    rotate_left
                    ·intro w'
                     go_simp
                     with_reducible rfl
                    rotate_left
                    ·simp only [Act.put, List.setIfInBounds_toArray, List.set_cons_zero, List.set_cons_succ, i64_w, i32_w]
                     rfl
                    refine pure_ (i := 1) (N := some 77) (v := ?_) (a' := ?_) #[true, true, false, false, false, false, false, false, false, false, false, false, false] rfl rfl (any_of HT_.out (by kernel_rfl)) (fun _ _ _ h => h) (Or.inl ⟨by rfl, ?_⟩) ?_ ?_
                    rotate_left
                    ·intro w'
                     go_simp
                     with_reducible rfl
                    rotate_left
                    ·simp only [Act.put, List.setIfInBounds_toArray, List.set_cons_zero, List.set_cons_succ, i64_w, i32_w]
                     rfl
                    refine pure_ (i := 3) (N := some 79) (v := ?_) (a' := ?_) #[true, true, false, true, false, false, false, false, false, false, false, false, false] rfl rfl (any_of HT_.out (by kernel_rfl)) (fun _ _ _ h => h) (Or.inl ⟨by rfl, ?_⟩) ?_ ?_
                    rotate_left
                    ·intro w'
                     go_simp
                     with_reducible rfl
                    rotate_left
                    ·simp only [Act.put, List.setIfInBounds_toArray, List.set_cons_zero, List.set_cons_succ, i64_w, i32_w]
                     rfl
                    refine pure_ (i := 4) (N := some 80) (v := ?_) (a' := ?_) #[true, true, false, true, true, false, false, false, false, false, false, false, false] rfl rfl (any_of HT_.out (by kernel_rfl)) (fun _ _ _ h => h) (Or.inl ⟨by rfl, ?_⟩) ?_ ?_
                    rotate_left
                    ·intro w'
                     go_simp
                     with_reducible rfl
                    rotate_left
                    ·simp only [Act.put, List.setIfInBounds_toArray, List.set_cons_zero, List.set_cons_succ, i64_w, i32_w]
                     rfl
                    refine pure_ (i := 8) (N := some 84) (v := ?_) (a' := ?_) #[true, true, false, true, true, false, false, false, true, false, false, false, false] rfl rfl (any_of HT_.out (by kernel_rfl)) (fun _ _ _ h => h) (Or.inl ⟨by rfl, ?_⟩) ?_ ?_
                    rotate_left
                    ·intro w'
                     go_simp
                     with_reducible rfl
                    rotate_left
                    ·simp only [Act.put, List.setIfInBounds_toArray, List.set_cons_zero, List.set_cons_succ, i64_w, i32_w]
                     rfl
                    refine take_ (i := 2) (N := some 78) (v := ?_) (a' := ?_) #[true, true, true, true, true, false, false, false, true, false, false, false, false] rfl rfl (take_ofW HT_.out HW_.out (by kernel_rfl)) (fun _ _ _ h => h) (Or.inl ⟨by rfl, ?_⟩) hHeld ?_ ?_
                    rotate_left
                    ·rintro w' ⟨s0, s1, s2, s3, s4, s5, s6, s7⟩
                     go_simp
                     with_reducible rfl
                    rotate_left
                    ·simp only [Act.put, List.setIfInBounds_toArray, List.set_cons_zero, List.set_cons_succ, i64_w, i32_w]
                     rfl
                    refine take_ (i := 5) (N := some 81) (v := ?_) (a' := ?_) #[true, true, true, true, true, true, false, false, true, false, false, false, false] rfl rfl (take_ofW HT_.out HW_.out (by kernel_rfl)) (fun _ _ _ h => h) (Or.inl ⟨by rfl, ?_⟩) hHeld ?_ ?_
                    rotate_left
                    ·rintro w' ⟨s0, s1, s2, s3, s4, s5, s6, s7⟩
                     go_simp
                     with_reducible rfl
                    rotate_left
                    ·simp only [Act.put, List.setIfInBounds_toArray, List.set_cons_zero, List.set_cons_succ, i64_w, i32_w]
                     rfl
                    refine pure_ (i := 6) (N := some 82) (v := ?_) (a' := ?_) #[true, true, true, true, true, true, true, false, true, false, false, false, false] rfl rfl (any_of HT_.out (by kernel_rfl)) (fun _ _ _ h => h) (Or.inl ⟨by rfl, ?_⟩) ?_ ?_
                    rotate_left
                    ·intro w'
                     go_simp
                     with_reducible rfl
                    rotate_left
                    ·simp only [Act.put, List.setIfInBounds_toArray, List.set_cons_zero, List.set_cons_succ, i64_w, i32_w]
                     rfl
                    refine take_ (i := 7) (N := some 83) (v := ?_) (a' := ?_) #[true, true, true, true, true, true, true, true, true, false, false, false, false] rfl rfl (take_ofW HT_.out HW_.out (by kernel_rfl)) (fun _ _ _ h => h) (Or.inl ⟨by rfl, ?_⟩) hHeld ?_ ?_
                    rotate_left
                    ·rintro w' ⟨s0, s1, s2, s3, s4, s5, s6, s7⟩
                     go_simp
                     with_reducible rfl
                    rotate_left
                    ·simp only [Act.put, List.setIfInBounds_toArray, List.set_cons_zero, List.set_cons_succ, i64_w, i32_w]
                     rfl
                    refine take_ (i := 9) (N := some 85) (v := ?_) (a' := ?_) #[true, true, true, true, true, true, true, true, true, true, false, false, false] rfl rfl (take_ofW HT_.out HW_.out (by kernel_rfl)) (fun _ _ _ h => h) (Or.inl ⟨by rfl, ?_⟩) hHeld ?_ ?_
                    rotate_left
                    ·rintro w' ⟨s0, s1, s2, s3, s4, s5, s6, s7⟩
                     go_simp
                     with_reducible rfl
                    rotate_left
                    ·simp only [Act.put, List.setIfInBounds_toArray, List.set_cons_zero, List.set_cons_succ, i64_w, i32_w]
                     rfl
                    refine pure_ (i := 10) (N := some 86) (v := ?_) (a' := ?_) #[true, true, true, true, true, true, true, true, true, true, true, false, false] rfl rfl (any_of HT_.out (by kernel_rfl)) (fun _ _ _ h => h) (Or.inl ⟨by rfl, ?_⟩) ?_ ?_
                    rotate_left
                    ·intro w'
                     go_simp
                     with_reducible rfl
                    rotate_left
                    ·simp only [Act.put, List.setIfInBounds_toArray, List.set_cons_zero, List.set_cons_succ, i64_w, i32_w]
                     rfl
                    refine pure_ (i := 11) (N := some 87) (v := ?_) (a' := ?_) #[true, true, true, true, true, true, true, true, true, true, true, true, false] rfl rfl (any_of HT_.out (by kernel_rfl)) (fun _ _ _ h => h) (Or.inl ⟨by rfl, ?_⟩) ?_ ?_
                    rotate_left
                    ·intro w'
                     go_simp
                     with_reducible rfl
                    rotate_left
                    ·simp only [Act.put, List.setIfInBounds_toArray, List.set_cons_zero, List.set_cons_succ, i64_w, i32_w]
                     rfl
                    refine last_ (i := 12) (N := none) #[true, true, true, true, true, true, true, true, true, true, true, true, true] rfl rfl (one_of HT_.out (by kernel_rfl)) (by decide) (fun K hK => ?_)
                    refine skip_ (w1 := ?_) (by rfl) rfl ?_ ?_
                    rotate_left
                    ·go_simp
                     rfl
                    refine hK.out _ _ ?_
                    clear hK K
                    refine done_ (done_of HT_.out (by kernel_rfl)) ?_
                    try go_wp2
                    go_roundg k4
                    case measure => have := HJ2.out; have := HK2.out; have := HJ19.out; have := HK4.out; omega
                    case rel => exact ⟨(y326), (wrap64 (x7_2 + 1)), (by first | rfl | (simp; done) | (simp [*]; done)), H', ⟨by have := HJ2.out; have := HK2.out; have := HJ19.out; have := HK4.out; omega⟩, ⟨by (with_reducible repeat (first | apply Kd.R_alloc | apply Kd.R_drewN | apply Kd.R_drew)); exact HQ51.out⟩, ⟨by (with_reducible repeat (first | refine blk_drewN ?_ _ | refine blk_drew ?_ | refine blk_alloc ?_ _)); refine blk_far ?_ (by have h_ := Kd.R_ne HO_6.out BK314.out (by decide); intro e_; exact h_ (by rw [e_]; rfl)) _; (with_reducible repeat (first | refine blk_drewN ?_ _ | refine blk_drew ?_ | refine blk_alloc ?_ _)); exact BK314.out⟩, ⟨by repeat (first | (with_reducible first | exact HB.out | apply below_alloc | apply pw_below_drewN | apply below_drew1 | refine below_set ?_ GB40.out | refine below_set ?_ GE314.out | refine below_set ?_ GE321.out) | exact HB.out)⟩⟩
                   ·rw [if_neg c42] at H
                    exact absurd H (by simp)
                  ·rw [if_neg c41] at H
                   exact absurd H (by simp)
                 ·rw [if_neg c39] at H
                  exact absurd H (by simp)
                ·rw [if_neg c38] at H
                 exact absurd H (by simp)
               ·replace c37 := Bool.eq_false_iff.mpr c37
                subst c37
                have H1 : (aircheckref24_Owed.l0 k4 a1 x6_2 (wrap64 (x7_2 + 1)) a0_0 l0_1 a0_2) = some (r1, r2) := by rw [if_neg (show ¬ (false = true) by decide)] at H; exact H
                clear H
                have H := H1
                clear H1
                have H' := Aside0.mk H
                clear H
                have hnb52 := NB314_321.out
                have hnc52 := NB321_314.out
                have hcz53_0 : wr.cell? ⟨gb314, 0, none⟩ = some (.int .i64 a0_0) := (blk_cell BK314.out 0).trans rfl
                have hcz53_1 : wr.cell? ⟨gb314, 1, none⟩ = some (.slice (some ad320) l0_1.length c0_1) := (blk_cell BK314.out 1).trans rfl
                have hcz53_2 : wr.cell? ⟨gb314, 2, none⟩ = some (.int .i64 a0_2) := (blk_cell BK314.out 2).trans rfl
                have hfz53_0 := blk_frozen BK314.out 0
                have hfz53_1 := blk_frozen BK314.out 1
                have hfz53_2 := blk_frozen BK314.out 2
                go_wp2
                go_roundg k4
                case measure => have := HJ2.out; have := HK2.out; have := HJ19.out; have := HK4.out; omega
                case rel => exact ⟨(x6_2), (wrap64 (x7_2 + 1)), (by first | rfl | (simp; done) | (simp [*]; done)), H', ⟨by have := HJ2.out; have := HK2.out; have := HJ19.out; have := HK4.out; omega⟩, ⟨by (with_reducible repeat (first | apply Kd.R_alloc | apply Kd.R_drewN | apply Kd.R_drew)); exact HO_6.out⟩, ⟨by (with_reducible repeat (first | refine blk_drewN ?_ _ | refine blk_drew ?_ | refine blk_alloc ?_ _)); exact BK314.out⟩, ⟨by repeat (first | (with_reducible first | exact HB.out | apply below_alloc | apply pw_below_drewN | apply below_drew1 | refine below_set ?_ GE314.out | refine below_set ?_ GE321.out) | exact HB.out)⟩⟩
         ·rw [if_neg c19] at H
          exact absurd H (by simp)
        ·rw [if_neg c18] at H
         have c18b0 : decide (x7_2 < (l0_1.length : Int)) = false := decide_eq_false c18
         clear c18
         simp only [Option.some.injEq, Prod.mk.injEq] at H
         obtain ⟨rfl, rfl⟩ := H
         have hcz54_0 : wr.cell? ⟨gb314, 0, none⟩ = some (.int .i64 a0_0) := (blk_cell BK314.out 0).trans rfl
         have hcz54_1 : wr.cell? ⟨gb314, 1, none⟩ = some (.slice A0_1 l0_1.length c0_1) := (blk_cell BK314.out 1).trans rfl
         have hcz54_2 : wr.cell? ⟨gb314, 2, none⟩ = some (.int .i64 a0_2) := (blk_cell BK314.out 2).trans rfl
         have hfz54_0 := blk_frozen BK314.out 0
         have hfz54_1 := blk_frozen BK314.out 1
         have hfz54_2 := blk_frozen BK314.out 2
         go_wp2
         go_ret2
         exact ⟨_, by first | rfl | (simp [errW_none, errW_some] <;> rfl) | (simp [*, errW_none, errW_some] <;> rfl), by (with_reducible repeat (first | apply Kd.R_alloc | apply Kd.R_drewN | apply Kd.R_drew)); exact HO_6.out, by repeat (first | (with_reducible first | exact HB.out | apply below_alloc | apply pw_below_drewN | apply below_drew1 | refine below_set ?_ GE314.out) | exact HB.out)⟩
     ·rw [if_neg c14] at H
      exact absurd H (by simp)
    ·rw [if_neg c13] at H
     exact absurd H (by simp)
end Go.Proofs.Ytooogaogbffjfaa.PB
end
