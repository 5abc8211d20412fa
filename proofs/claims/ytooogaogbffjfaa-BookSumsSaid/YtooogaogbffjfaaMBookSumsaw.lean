import Derived.Test.YtooogaogbffjfaaMBookSumsau
import Derived.Test.YtooogaogbffjfaaMBookSumsav
/-
  Texts of this claim, one behind the other: what they prove stands above each.
-/
section
-- Written by a program of this session out of the translation's print; not trusted: checked by the kernel.
namespace Go.Proofs.Ytooogaogbffjfaa.PL
open Go.Proofs.Ytooogaogbffjfaa.Ext
open Go.RowKit Go.Proofs.YtooogaogbffjfaaW.PrintWords Go.Proofs.YtooogaogbffjfaaW.PrintLast Go.Proofs.YtooogaogbffjfaaW.PrintMore
attribute [local go_sem] max2_int min2_int max_two min_two max_three min_three max_four min_four   -- for this text's walks alone
set_option linter.unusedVariables false
set_option linter.unusedSimpArgs false
/-! ### airchecklaw24_BookSums: function 4 -/
mutual
def airchecklaw24_BookSums.l0 : Nat → Bool → List Int → Int → Int → List (S27) → Int → Option (Bool)
 | 0, _, _, _, _, _, _ => none
 | k + 1, x5, x7, x8, x230000, x230001, x230002 => if x8 < 12 then ((book_Statement.f x230000 x230001 x230002 x8).bind fun bt233 => (if bt233.2 = 0 then (airchecklaw24_BookSums.j1 k x5 x7 x8 bt233.1 ((bt233.1.length : Int) != x230000) x230000 x230001 x230002) else (airchecklaw24_BookSums.j1 k x5 x7 x8 bt233.1 true x230000 x230001 x230002))) else (if 0 ≤ x230000 then (if (x230000 : Int).toNat ≤ 35184372088832 then (airchecklaw24_BookSums.l2 k x5 x7 (List.replicate (x230000 : Int).toNat 0) 0 x230000 x230001 x230002) else (none)) else (none))
def airchecklaw24_BookSums.j1 : Nat → Bool → List Int → Int → List Int → Bool → Int → List (S27) → Int → Option (Bool)
 | 0, _, _, _, _, _, _, _, _ => none
 | k + 1, x5, x7, x8, x9, x48, x230000, x230001, x230002 => if x48 = true then (some false) else (airchecklaw24_BookSums.l1 k x5 x7 x8 x9 0 0 x230000 x230001 x230002)
def airchecklaw24_BookSums.l1 : Nat → Bool → List Int → Int → List Int → Int → Int → Int → List (S27) → Int → Option (Bool)
 | 0, _, _, _, _, _, _, _, _, _ => none
 | k + 1, x5, x7, x8, x9, x11, x12, x230000, x230001, x230002 => if x12 < x230000 then ((book_Balance.f x230000 x230001 x230002 x12 x8).bind fun bt237 => (if bt237.2 = 0 then (if 0 ≤ x12 then (if x12 < (x9.length : Int) then (if bt237.1 = (rd x9 x12) then (if x12 < (x7.length : Int) then (airchecklaw24_BookSums.l1 k x5 (x7.set (x12 : Int).toNat (wrap64 ((rd x7 x12) + (rd x9 x12)))) x8 x9 (wrap64 (x11 + (rd x9 x12))) (wrap64 (x12 + 1)) x230000 x230001 x230002) else (none)) else (some false)) else (none)) else (none)) else (some false))) else (if x11 = 0 then (airchecklaw24_BookSums.l0 k x5 x7 (wrap64 (x8 + 1)) x230000 x230001 x230002) else (some false))
def airchecklaw24_BookSums.l2 : Nat → Bool → List Int → List Int → Int → Int → List (S27) → Int → Option (Bool)
 | 0, _, _, _, _, _, _, _ => none
 | k + 1, x5, x7, x15, x16, x230000, x230001, x230002 => if x16 < 6 then ((book_Owed.f x230000 x230001 x230002 x16).bind fun bt247 => (if bt247.2 = 0 then (airchecklaw24_BookSums.j4 k x5 x7 x15 x16 bt247.1 ((bt247.1.length : Int) != x230000) x230000 x230001 x230002) else (airchecklaw24_BookSums.j4 k x5 x7 x15 x16 bt247.1 true x230000 x230001 x230002))) else (airchecklaw24_BookSums.l4 k x5 x7 x15 0 x230000 x230001 x230002)
def airchecklaw24_BookSums.j4 : Nat → Bool → List Int → List Int → Int → List Int → Bool → Int → List (S27) → Int → Option (Bool)
 | 0, _, _, _, _, _, _, _, _, _ => none
 | k + 1, x5, x7, x15, x16, x17, x113, x230000, x230001, x230002 => if x113 = true then (some false) else (airchecklaw24_BookSums.l3 k x5 x7 x15 x16 x17 0 0 x230000 x230001 x230002)
def airchecklaw24_BookSums.l3 : Nat → Bool → List Int → List Int → Int → List Int → Int → Int → Int → List (S27) → Int → Option (Bool)
 | 0, _, _, _, _, _, _, _, _, _, _ => none
 | k + 1, x5, x7, x15, x16, x17, x19, x20, x230000, x230001, x230002 => if x20 < x230000 then (if 0 ≤ x20 then (if x20 < (x17.length : Int) then (if x20 < (x15.length : Int) then (airchecklaw24_BookSums.l3 k x5 x7 (x15.set (x20 : Int).toNat (wrap64 ((rd x15 x20) + (rd x17 x20)))) x16 x17 (wrap64 (x19 + (rd x17 x20))) (wrap64 (x20 + 1)) x230000 x230001 x230002) else (none)) else (none)) else (none)) else (if x19 = 0 then (airchecklaw24_BookSums.l2 k x5 x7 x15 (wrap64 (x16 + 1)) x230000 x230001 x230002) else (some false))
def airchecklaw24_BookSums.l4 : Nat → Bool → List Int → List Int → Int → Int → List (S27) → Int → Option (Bool)
 | 0, _, _, _, _, _, _, _ => none
 | k + 1, x5, x7, x15, x21, x230000, x230001, x230002 => if x21 < (x230001.length : Int) then (if 0 ≤ x21 then (if 0 ≤ ((rd_T27 x230001 x21).f3) then (if ((rd_T27 x230001 x21).f3) < (x7.length : Int) then ((some (x7.set (((rd_T27 x230001 x21).f3) : Int).toNat (wrap64 ((rd x7 ((rd_T27 x230001 x21).f3)) - ((rd_T27 x230001 x21).f4))) : List Int)).bind fun y258 => (if 0 ≤ ((rd_T27 x230001 x21).f2) then (if ((rd_T27 x230001 x21).f2) < (x7.length : Int) then (if ((rd_T27 x230001 x21).f3) < (x15.length : Int) then ((some (x15.set (((rd_T27 x230001 x21).f3) : Int).toNat (wrap64 ((rd x15 ((rd_T27 x230001 x21).f3)) - ((rd_T27 x230001 x21).f4))) : List Int)).bind fun y262 => (if ((rd_T27 x230001 x21).f2) < (x15.length : Int) then (airchecklaw24_BookSums.l4 k x5 (y258.set (((rd_T27 x230001 x21).f2) : Int).toNat (wrap64 ((rd y258 ((rd_T27 x230001 x21).f2)) + ((rd_T27 x230001 x21).f4)))) (y262.set (((rd_T27 x230001 x21).f2) : Int).toNat (wrap64 ((rd y262 ((rd_T27 x230001 x21).f2)) + ((rd_T27 x230001 x21).f4)))) (wrap64 (x21 + 1)) x230000 x230001 x230002) else (none))) else (none)) else (none)) else (none))) else (none)) else (none)) else (none)) else (if x5 = true then (if 0 ≤ x230000 then (if (x230000 : Int).toNat ≤ 35184372088832 then ((aircheckref24_Ints.f k x7 (List.replicate (x230000 : Int).toNat 0)).bind fun t268 => (if t268 = true then ((aircheckref24_Ints.f k x15 (List.replicate (x230000 : Int).toNat 0)).bind fun t272 => (some t272)) else (some false))) else (none)) else (none)) else (some false))
end
def airchecklaw24_BookSums.f (k : Nat) (a0 : Int) (l1 : List (S48)) : Option (Bool) := (airchecklaw24_sane.f).bind fun t223 => ((aircheckref24_Made.f a0 l1).bind fun bt224 => (if 0 ≤ bt224.1 then (if (bt224.1 : Int).toNat ≤ 35184372088832 then (airchecklaw24_BookSums.l0 k t223 (List.replicate (bt224.1 : Int).toNat 0) 0 bt224.1 bt224.2.1 bt224.2.2) else (none)) else (none)))
def airchecklaw24_BookSums.T18 : Bool × List (List Nat × List Nat) := (true, [([], []), ([], []), ([], []), ([], []), ([2, 3], [2, 3]), ([4], [4]), ([], []), ([], []), ([6, 7], [6, 7]), ([8], [8]), ([5, 9], [5, 9]), ([0, 1, 0, 1, 2, 3, 4, 5, 6, 7, 8, 9, 10], [0, 1]), ([11, 10, 0, 1, 2, 3, 4, 5, 6, 7, 8, 9, 10], [10, 11])])
def airchecklaw24_BookSums.B18 : List Nat := [0, 0, 0, 0, 12, 28, 0, 0, 192, 448, 1020, 2047, 4095]
theorem airchecklaw24_BookSums.tab18 : rtab .any (opsOf Try.f4 18) = airchecklaw24_BookSums.T18 := by kernel_rfl
theorem airchecklaw24_BookSums.bits18 : waitsOk airchecklaw24_BookSums.T18.2 airchecklaw24_BookSums.B18 = true := by kernel_rfl
def airchecklaw24_BookSums.T33 : Bool × List (List Nat × List Nat) := (true, [([], []), ([], []), ([], []), ([], []), ([2, 3], [2, 3]), ([4], [4]), ([], []), ([], []), ([6, 7], [6, 7]), ([8], [8]), ([5, 9], [5, 9]), ([0, 1, 0, 1, 2, 3, 4, 5, 6, 7, 8, 9, 10], [0, 1]), ([11, 10, 0, 1, 2, 3, 4, 5, 6, 7, 8, 9, 10], [10, 11])])
def airchecklaw24_BookSums.B33 : List Nat := [0, 0, 0, 0, 12, 28, 0, 0, 192, 448, 1020, 2047, 4095]
theorem airchecklaw24_BookSums.tab33 : rtab .any (opsOf Try.f4 33) = airchecklaw24_BookSums.T33 := by kernel_rfl
theorem airchecklaw24_BookSums.bits33 : waitsOk airchecklaw24_BookSums.T33.2 airchecklaw24_BookSums.B33 = true := by kernel_rfl
def airchecklaw24_BookSums.T40 : Bool × List (List Nat × List Nat) := (true, [([], []), ([], []), ([1], [1]), ([], []), ([], []), ([4], [4]), ([3, 5], [3, 5]), ([6], [6]), ([], []), ([8], [8]), ([7, 9], [7, 9]), ([0, 2, 0, 1, 2, 3, 4, 5, 6, 7, 8, 9, 10], [0, 2]), ([11, 10, 0, 1, 2, 3, 4, 5, 6, 7, 8, 9, 10], [10, 11])])
def airchecklaw24_BookSums.B40 : List Nat := [0, 0, 2, 0, 0, 16, 56, 120, 0, 256, 1016, 2047, 4095]
theorem airchecklaw24_BookSums.tab40 : rtab .any (opsOf Try.f4 40) = airchecklaw24_BookSums.T40 := by kernel_rfl
theorem airchecklaw24_BookSums.bits40 : waitsOk airchecklaw24_BookSums.T40.2 airchecklaw24_BookSums.B40 = true := by kernel_rfl
def airchecklaw24_BookSums.T41 : Bool × List (List Nat × List Nat) := (true, [([], []), ([], []), ([1], [1]), ([], []), ([], []), ([4], [4]), ([3, 5], [3, 5]), ([6], [6]), ([], []), ([8], [8]), ([7, 9], [7, 9]), ([0, 2, 0, 1, 2, 3, 4, 5, 6, 7, 8, 9, 10], [0, 2]), ([11, 10, 0, 1, 2, 3, 4, 5, 6, 7, 8, 9, 10], [10, 11])])
def airchecklaw24_BookSums.B41 : List Nat := [0, 0, 2, 0, 0, 16, 56, 120, 0, 256, 1016, 2047, 4095]
theorem airchecklaw24_BookSums.tab41 : rtab .any (opsOf Try.f4 41) = airchecklaw24_BookSums.T41 := by kernel_rfl
theorem airchecklaw24_BookSums.bits41 : waitsOk airchecklaw24_BookSums.T41.2 airchecklaw24_BookSums.B41 = true := by kernel_rfl
def airchecklaw24_BookSums.T42 : Bool × List (List Nat × List Nat) := (true, [([], []), ([], []), ([1], [1]), ([], []), ([], []), ([4], [4]), ([3, 5], [3, 5]), ([6], [6]), ([], []), ([8], [8]), ([7, 9], [7, 9]), ([0, 2, 0, 1, 2, 3, 4, 5, 6, 7, 8, 9, 10], [0, 2]), ([11, 10, 0, 1, 2, 3, 4, 5, 6, 7, 8, 9, 10], [10, 11])])
def airchecklaw24_BookSums.B42 : List Nat := [0, 0, 2, 0, 0, 16, 56, 120, 0, 256, 1016, 2047, 4095]
theorem airchecklaw24_BookSums.tab42 : rtab .any (opsOf Try.f4 42) = airchecklaw24_BookSums.T42 := by kernel_rfl
theorem airchecklaw24_BookSums.bits42 : waitsOk airchecklaw24_BookSums.T42.2 airchecklaw24_BookSums.B42 = true := by kernel_rfl
def airchecklaw24_BookSums.T43 : Bool × List (List Nat × List Nat) := (true, [([], []), ([], []), ([1], [1]), ([], []), ([], []), ([4], [4]), ([3, 5], [3, 5]), ([6], [6]), ([], []), ([8], [8]), ([7, 9], [7, 9]), ([0, 2, 0, 1, 2, 3, 4, 5, 6, 7, 8, 9, 10], [0, 2]), ([11, 10, 0, 1, 2, 3, 4, 5, 6, 7, 8, 9, 10], [10, 11])])
def airchecklaw24_BookSums.B43 : List Nat := [0, 0, 2, 0, 0, 16, 56, 120, 0, 256, 1016, 2047, 4095]
theorem airchecklaw24_BookSums.tab43 : rtab .any (opsOf Try.f4 43) = airchecklaw24_BookSums.T43 := by kernel_rfl
theorem airchecklaw24_BookSums.bits43 : waitsOk airchecklaw24_BookSums.T43.2 airchecklaw24_BookSums.B43 = true := by kernel_rfl
set_option maxHeartbeats 8000000 in
set_option maxRecDepth 100000 in
theorem airchecklaw24_BookSums.calls (k : Nat) (a0 : Int) (A1 : Option Addr) (c1 : Nat) (l1 : List (S48)) (r : Bool) (w : World) (hr1 : Kd.C k48 w A1 l1.length l1) (hc1 : l1.length ≤ c1) (h : airchecklaw24_BookSums.f k a0 l1 = some r) :
  Calls Try.prog 4 #[.int .i64 a0, .slice A1 l1.length c1] w fun e w' => e = .returned (.bool r) ∧ Below w.heap.size w w' := by
 have hu24 := Try.underlying24
 have hu27 := Try.underlying27
 have HR1 := Aside0.mk hr1
 have HC1 := Aside0.mk hc1
 clear hr1 hc1
 have HB := Aside0.mk (Below.refl w.heap.size w)
 have H : ((airchecklaw24_sane.f).bind fun t223 => ((aircheckref24_Made.f a0 l1).bind fun bt224 => (if 0 ≤ bt224.1 then (if (bt224.1 : Int).toNat ≤ 35184372088832 then (airchecklaw24_BookSums.l0 k t223 (List.replicate (bt224.1 : Int).toNat 0) 0 bt224.1 bt224.2.1 bt224.2.2) else (none)) else (none)))) = some r := h
 clear h
 replace H := Option.bind_eq_some_iff.mp H
 obtain ⟨t223, A30, H⟩ := H
 replace H : ((aircheckref24_Made.f a0 l1).bind fun bt224 => (if 0 ≤ bt224.1 then (if (bt224.1 : Int).toNat ≤ 35184372088832 then (airchecklaw24_BookSums.l0 k t223 (List.replicate (bt224.1 : Int).toNat 0) 0 bt224.1 bt224.2.1 bt224.2.2) else (none)) else (none))) = some r := H
 have A3 := Aside0.mk A30
 clear A30
 replace H := Option.bind_eq_some_iff.mp H
 obtain ⟨⟨t224, t225, t228⟩, A40, H⟩ := H
 replace H : (if 0 ≤ t224 then (if (t224 : Int).toNat ≤ 35184372088832 then (airchecklaw24_BookSums.l0 k t223 (List.replicate (t224 : Int).toNat 0) 0 t224 t225 t228) else (none)) else (none)) = some r := H
 have A4 := Aside0.mk A40
 clear A40
 by_cases c5 : 0 ≤ t224
 ·rw [if_pos c5] at H
  have c5b0 := eq_true c5
  have c5b1 : decide (0 ≤ t224) = true := decide_eq_true c5
  clear c5
  by_cases c6 : (t224 : Int).toNat ≤ 35184372088832
  ·rw [if_pos c6] at H
   have c6b0 := eq_true c6
   have c6b1 : decide ((t224 : Int).toNat ≤ 35184372088832) = true := decide_eq_true c6
   clear c6
   obtain ⟨y230, hy230⟩ : ∃ y_ : List Int, y_ = (List.replicate (t224 : Int).toNat 0) := ⟨_, rfl⟩
   replace H : (airchecklaw24_BookSums.l0 k t223 y230 0 t224 t225 t228) = some r := by first | (rw [hy230]; with_reducible exact H) | (have H2_ := (Option.bind_some _ _).symm.trans H; rw [hy230]; with_reducible exact H2_) | (have H2_ := (Option.bind_some _ _).symm.trans H; with_reducible exact H2_) | with_reducible exact H | (rw [hy230]; exact H) | exact H
   have Ny230 := Aside0.mk hy230
   clear hy230
   have H' := Aside0.mk H
   clear H
   go_enter Try.func4, Try.ntmps4
   go_wp2_with (first | ((with_reducible refine gate_callee (f := 7) rfl ?_); refine goesL_ (some 23) rfl rfl Try.func7 (by kernel_rfl) rfl #[] rfl (by (try simp only [List.map_toArray, List.map_cons, List.map_nil]); first | done | rfl | (simp only [List.length_drop, List.length_take]; rfl)) ?_; (with_reducible refine (airchecklaw24_sane.calls  t223 _ A3.out).mono ?_); rintro e w7 ⟨rfl, hb⟩; refine ⟨_, rfl, ?_⟩; have n0_ := Aside0.mk (below_step (by repeat (first | (with_reducible first | exact HB.out | apply below_alloc | apply pw_below_drewN | apply below_drew1) | exact HB.out)) hb); clear HB; have HB := n0_; clear n0_; (try clear hb); (try clear hb2); (try clear hk); (try clear hi)) | ((with_reducible refine gate_callee (f := 8) rfl ?_); refine goesL_ (some 26) rfl rfl Try.func8 (by kernel_rfl) rfl #[.int .i64 a0, .slice A1 l1.length c1] rfl (by (try simp only [List.map_toArray, List.map_cons, List.map_nil]); first | done | rfl | (simp only [List.length_drop, List.length_take]; rfl)) ?_; (with_reducible refine (aircheckref24_Made.calls a0 _ _ l1 t224 t225 t228 _ ?side1 ?side2 A4.out).mono ?_); (case side1 => repeat (first | exact (Kd.C_below HR1.out HB.out) | (with_reducible refine Kd.C_alloc ?_ _) | (with_reducible refine Kd.C_drewN ?_ _) | (with_reducible refine Kd.C_drew ?_))); (case side2 => exact HC1.out); rintro e w8 ⟨v226, rfl, ho0, hb⟩; refine ⟨_, rfl, ?_⟩; have n0_ := Aside0.mk (Kd.R_lower ho0 (below_size (by repeat (first | (with_reducible first | exact HB.out | apply below_alloc | apply pw_below_drewN | apply below_drew1) | exact HB.out)))); have n1_ := Aside0.mk (below_step (by repeat (first | (with_reducible first | exact HB.out | apply below_alloc | apply pw_below_drewN | apply below_drew1) | exact HB.out)) hb); clear HB; have HO227 := n0_; have HB := n1_; clear n0_ n1_; (try clear hb); (try clear hb2); (try clear hk); (try clear hi); (try clear ho0)) | ((with_reducible refine gate_dst (N := 6) rfl ?_); (try (refine gate_guard (by rfl) ?_; dsimp only)); refine box_event ?hg (N := 6) ?hd (cs := #[.int .i64 0, .slice none 0 0, .int .i64 0]) (t := 24) ?hr ?_; (case hd => rfl); (case hg => rfl); (case hr => first | (go_simp; done) | (go_simp; rfl)); intro gb229 hg w9 hbox hb; have n0_ := Aside0.mk (Kd.R_below (by (with_reducible repeat (first | apply Kd.R_alloc | apply Kd.R_drewN | apply Kd.R_drew)); exact HO227.out) hb); have n1_ := Aside0.mk (below_step (by repeat (first | (with_reducible first | exact HB.out | apply below_alloc | apply pw_below_drewN | apply below_drew1) | exact HB.out)) hb); have n2_ := Aside0.mk (hbox); have n3_ := Aside0.mk ((by rw [hg]; exact (below_size (by repeat (first | (with_reducible first | exact HB.out | apply below_alloc | apply pw_below_drewN | apply below_drew1) | exact HB.out))) : w.heap.size ≤ gb229)); have n4_ := Aside0.mk ((by rw [hg]; exact (below_size (by repeat (first | (with_reducible first | exact HB.out | apply below_alloc | apply pw_below_drewN | apply below_drew1) | exact HB.out))) : w.heap.size ≤ gb229)); clear HO227; clear HB; have HO227 := n0_; have HB := n1_; have BK229 := n2_; have GW229 := n3_; have GE229 := n4_; clear n0_ n1_ n2_ n3_ n4_; clear hb hbox hg; have hcz10_0 : w9.cell? ⟨gb229, 0, none⟩ = some (.int .i64 0) := (blk_cell BK229.out 0).trans rfl; have hcz10_1 : w9.cell? ⟨gb229, 1, none⟩ = some (.slice none 0 0) := (blk_cell BK229.out 1).trans rfl; have hcz10_2 : w9.cell? ⟨gb229, 2, none⟩ = some (.int .i64 0) := (blk_cell BK229.out 2).trans rfl; have hfz10_0 := blk_frozen BK229.out 0; have hfz10_1 := blk_frozen BK229.out 1; have hfz10_2 := blk_frozen BK229.out 2; obtain ⟨Ao11, co11, eo11⟩ := Kd.R_slice HO227.out; subst eo11) | ((with_reducible refine gate_dst (N := 29) rfl ?_); (try (refine gate_guard (by rfl) ?_; dsimp only)); refine Kd.R_make (Kd.int .i64) _ 3 rfl (N := 29) rfl 37 _ _ rfl t224 rfl rfl Try.underlying37 (.int .i64 0) 8 info3 rfl (by decide) (by omega) 0 (ok := fun _ => True) (okp := fun _ => True) rfl (fun _ hk => hk) trivial (of_decide_eq_true (by first | (with_reducible assumption) | assumption)) (Nat.le_trans (Nat.mul_le_mul_right _ (of_decide_eq_true (by first | (with_reducible assumption) | assumption) : t224.toNat ≤ 35184372088832)) (by omega)) (Below.refl _ _) (Nat.le_refl _) ?_; intro v231 w12 ho13 hb hg_ hnew_; clear hg_ hnew_; (first | rw [← Ny230.out] at ho13 | (simp only [Int.reduceToNat] at ho13; rw [← Ny230.out] at ho13)); have n0_ := Aside0.mk (Kd.R_below (by (with_reducible repeat (first | apply Kd.R_alloc | apply Kd.R_drewN | apply Kd.R_drew)); exact (Kd.R_mono (Kd.R_far (p := ⟨gb229, 2, none⟩) (Kd.R_far (p := ⟨gb229, 1, none⟩) (Kd.R_far (p := ⟨gb229, 0, none⟩) (Kd.R_types HO227.out BK229.out (by decide)) (fun _ hk => hk.2) (.int .i64 t224)) (fun _ hk => hk.2) (.slice Ao11 t225.length co11)) (fun _ hk => hk.2) (.int .i64 t228)) (fun _ h_ => h_.1))) hb); have n1_ := Aside0.mk (Kd.R_lower ho13 (below_size (by repeat (first | (with_reducible first | exact HB.out | apply below_alloc | apply pw_below_drewN | apply below_drew1 | refine below_set ?_ GE229.out) | exact HB.out)))); have n2_ := Aside0.mk (blk_below (g := gb229) (o := .cells #[.int .i64 t224, .slice Ao11 t225.length co11, .int .i64 t228] 24 (0, 0)) (by (with_reducible repeat (first | refine blk_drewN ?_ _ | refine blk_drew ?_ | refine blk_alloc ?_ _)); refine blk_put (cs := #[.int .i64 t224, .slice Ao11 t225.length co11, .int .i64 0]) ?_ 2 _ rfl; (with_reducible repeat (first | refine blk_drewN ?_ _ | refine blk_drew ?_ | refine blk_alloc ?_ _)); refine blk_put (cs := #[.int .i64 t224, .slice none 0 0, .int .i64 0]) ?_ 1 _ rfl; (with_reducible repeat (first | refine blk_drewN ?_ _ | refine blk_drew ?_ | refine blk_alloc ?_ _)); refine blk_put (cs := #[.int .i64 0, .slice none 0 0, .int .i64 0]) ?_ 0 _ rfl; (with_reducible repeat (first | refine blk_drewN ?_ _ | refine blk_drew ?_ | refine blk_alloc ?_ _)); exact BK229.out) hb); have n3_ := Aside0.mk (below_step (by repeat (first | (with_reducible first | exact HB.out | apply below_alloc | apply pw_below_drewN | apply below_drew1 | refine below_set ?_ GE229.out) | exact HB.out)) hb); clear HO227; clear BK229; clear HB; have HO227 := n0_; have HO232 := n1_; have BK229 := n2_; have HB := n3_; clear n0_ n1_ n2_ n3_; clear hb ho13))
   go_loopg [8] k (fun kq v8 w' => ∃ (x7_1 : List Int) (x8_1 : Int), v8 = .int .i64 x8_1 ∧ Aside0 (airchecklaw24_BookSums.l0 kq t223 x7_1 x8_1 t224 t225 t228 = some r) ∧ Aside0 (kq ≤ k) ∧ Aside0 (Kd.R (Kd.int .i64) 3 w' w.heap.size (fun _ => True) v231 x7_1) ∧ Aside0 (Kd.R k27 27 w' w.heap.size (fun _ => True) (.slice Ao11 t225.length co11) t225) ∧ Aside0 (w'.heap[gb229]? = some (.cells #[.int .i64 t224, (.slice Ao11 t225.length co11), .int .i64 t228] 24 (0, 0))) ∧ Aside0 (Below w.heap.size w w'))
   case atStart => exact ⟨(y230), (0), (by first | rfl | (simp; done) | (simp [*]; done)), H', ⟨Nat.le_refl _⟩, ⟨by (with_reducible repeat (first | apply Kd.R_alloc | apply Kd.R_drewN | apply Kd.R_drew)); exact HO232.out⟩, ⟨by (with_reducible repeat (first | apply Kd.R_alloc | apply Kd.R_drewN | apply Kd.R_drew)); exact HO227.out⟩, ⟨by (with_reducible repeat (first | refine blk_drewN ?_ _ | refine blk_drew ?_ | refine blk_alloc ?_ _)); exact BK229.out⟩, ⟨by repeat (first | (with_reducible first | exact HB.out | apply below_alloc | apply pw_below_drewN | apply below_drew1 | refine below_set ?_ GE229.out) | exact HB.out)⟩⟩
   case round =>
    clear H'
    try clear c1
    try clear p2
    try clear c4
    try clear c5
    try clear c5b0
    try clear c5b1
    try clear c6
    try clear c6b0
    try clear c6b1
    try clear c7
    try clear c8
    try clear hcz10_0
    try clear hcz10_1
    try clear hcz10_2
    try clear hfz10_0
    try clear hfz10_1
    try clear hfz10_2
    obtain ⟨x7_1, x8_1, rfl, HA, HK1, HO_7, HO_230001, BK229, HB⟩ := hrel
    cases gk with
    | zero => exact absurd HA.out (by simp [airchecklaw24_BookSums.l0])
    | succ k1 =>
     have H := HA.out
     clear HA
     simp only [airchecklaw24_BookSums.l0] at H
     by_cases c14 : x8_1 < 12
     ·rw [if_pos c14] at H
      have c14b0 : decide (x8_1 < 12) = true := decide_eq_true c14
      clear c14
      replace H := Option.bind_eq_some_iff.mp H
      obtain ⟨⟨t233, t236⟩, A150, H⟩ := H
      replace H : (if t236 = 0 then (airchecklaw24_BookSums.j1 k1 t223 x7_1 x8_1 t233 ((t233.length : Int) != t224) t224 t225 t228) else (airchecklaw24_BookSums.j1 k1 t223 x7_1 x8_1 t233 true t224 t225 t228)) = some r := H
      have A15 := Aside0.mk A150
      clear A150
      have HC16 := Aside0.mk H
      clear H
      have hcz17_0 : wr.cell? ⟨gb229, 0, none⟩ = some (.int .i64 t224) := (blk_cell BK229.out 0).trans rfl
      have hcz17_1 : wr.cell? ⟨gb229, 1, none⟩ = some (.slice Ao11 t225.length co11) := (blk_cell BK229.out 1).trans rfl
      have hcz17_2 : wr.cell? ⟨gb229, 2, none⟩ = some (.int .i64 t228) := (blk_cell BK229.out 2).trans rfl
      have hfz17_0 := blk_frozen BK229.out 0
      have hfz17_1 := blk_frozen BK229.out 1
      have hfz17_2 := blk_frozen BK229.out 2
      go_upto_region 8 with (first | ((with_reducible refine gate_callee (f := 19) rfl ?_); refine goesL_ (some 37) rfl rfl Try.func19 (by kernel_rfl) rfl #[.agg #[.int .i64 t224, .slice Ao11 t225.length co11, .int .i64 t228], .int .i64 x8_1] rfl (by (try simp only [List.map_toArray, List.map_cons, List.map_nil]); first | done | rfl | (simp only [List.length_drop, List.length_take]; rfl)) ?_; (with_reducible refine (book_Statement.calls t224 _ _ t225 t228 x8_1 t233 t236 _ ?side1 ?side2 A15.out).mono ?_); (case side1 => repeat (first | exact (Kd.R_reads' HO_230001.out).2.2 | (with_reducible refine Kd.C_alloc ?_ _) | (with_reducible refine Kd.C_drewN ?_ _) | (with_reducible refine Kd.C_drew ?_))); (case side2 => exact (Kd.R_reads' HO_230001.out).2.1); rintro e w18 ⟨v234, rfl, ho0, hb⟩; refine ⟨_, rfl, ?_⟩; have n0_ := Aside0.mk (Kd.R_elder' (by (with_reducible repeat (first | apply Kd.R_alloc | apply Kd.R_drewN | apply Kd.R_drew)); exact HO_7.out) (Kd.R_base ho0) hb); have n1_ := Aside0.mk (Kd.R_below (by (with_reducible repeat (first | apply Kd.R_alloc | apply Kd.R_drewN | apply Kd.R_drew)); exact HO_230001.out) hb); have n2_ := Aside0.mk (Kd.R_lower (Kd.R_new' ho0 (Kd.R_lt (by (with_reducible repeat (first | apply Kd.R_alloc | apply Kd.R_drewN | apply Kd.R_drew)); exact HO_7.out))) (below_size (by repeat (first | (with_reducible first | exact HB.out | apply below_alloc | apply pw_below_drewN | apply below_drew1 | refine below_set ?_ GE229.out) | exact HB.out)))); have n3_ := Aside0.mk (blk_below (g := gb229) (o := .cells #[.int .i64 t224, .slice Ao11 t225.length co11, .int .i64 t228] 24 (0, 0)) (by (with_reducible repeat (first | refine blk_drewN ?_ _ | refine blk_drew ?_ | refine blk_alloc ?_ _)); exact BK229.out) hb); have n4_ := Aside0.mk (below_step (by repeat (first | (with_reducible first | exact HB.out | apply below_alloc | apply pw_below_drewN | apply below_drew1 | refine below_set ?_ GE229.out) | exact HB.out)) hb); clear HO_7; clear HO_230001; clear BK229; clear HB; have HO_7 := n0_; have HO_230001 := n1_; have HO235 := n2_; have BK229 := n3_; have HB := n4_; clear n0_ n1_ n2_ n3_ n4_; (try clear hb); (try clear hb2); (try clear hk); (try clear hi); (try clear ho0)))
      (try simp only [Act.put, List.setIfInBounds_toArray, List.set_cons_zero, List.set_cons_succ])
      go_cut [48] (fun v48 wc => ∃ (kq : Nat) (x48_15 : Bool), v48 = .bool x48_15 ∧ Aside0 (airchecklaw24_BookSums.j1 kq t223 x7_1 x8_1 t233 x48_15 t224 t225 t228 = some r) ∧ Aside0 (kq ≤ k1) ∧ Aside0 (Kd.R (Kd.int .i64) 3 wc w.heap.size (fun k_ => some k_ ≠ (v234 : Value).ownBlock) v231 x7_1) ∧ Aside0 (Kd.R (Kd.int .i64) 3 wc w.heap.size (fun k_ => some k_ ≠ (v231 : Value).ownBlock) v234 t233) ∧ Aside0 (Kd.R k27 27 wc w.heap.size (fun _ => True) (.slice Ao11 t225.length co11) t225) ∧ Aside0 (wc.heap[gb229]? = some (.cells #[.int .i64 t224, (.slice Ao11 t225.length co11), .int .i64 t228] 24 (0, 0))) ∧ Aside0 (Below w.heap.size w wc))
      case first =>
       have H := HC16.out
       clear HC16
       by_cases c19 : t236 = 0
       ·rw [if_pos c19] at H
        have c19b0 : (t236 == 0) = true := beq_iff_eq.mpr c19
        have c19b1 : (t236 != 0) = false := bne_eq_false_iff_eq.mpr c19
        clear c19
        (first | rw [c19b0] | (simp only [i64_w, i32_w]; rw [c19b0]) | skip)
        have H' := Aside0.mk H
        clear H
        obtain ⟨Ao20, co20, eo20⟩ := Kd.R_slice HO235.out
        subst eo20
        have hcz21_0 : w18.cell? ⟨gb229, 0, none⟩ = some (.int .i64 t224) := (blk_cell BK229.out 0).trans rfl
        have hcz21_1 : w18.cell? ⟨gb229, 1, none⟩ = some (.slice Ao11 t225.length co11) := (blk_cell BK229.out 1).trans rfl
        have hcz21_2 : w18.cell? ⟨gb229, 2, none⟩ = some (.int .i64 t228) := (blk_cell BK229.out 2).trans rfl
        have hfz21_0 := blk_frozen BK229.out 0
        have hfz21_1 := blk_frozen BK229.out 1
        have hfz21_2 := blk_frozen BK229.out 2
        go_wp2
        go_meet
        case rel => exact ⟨_, (((t233.length : Int) != t224)), (by first | rfl | (simp; done) | (simp [*]; done)), H', ⟨by have := HK1.out; first | omega | exact Nat.le_refl _⟩, ⟨by (with_reducible repeat (first | apply Kd.R_alloc | apply Kd.R_drewN | apply Kd.R_drew)); exact Kd.R_mono HO_7.out (fun _ hk => hk.2)⟩, ⟨by (with_reducible repeat (first | apply Kd.R_alloc | apply Kd.R_drewN | apply Kd.R_drew)); exact Kd.R_mono HO235.out (fun _ hk => hk.2)⟩, ⟨by (with_reducible repeat (first | apply Kd.R_alloc | apply Kd.R_drewN | apply Kd.R_drew)); exact HO_230001.out⟩, ⟨by (with_reducible repeat (first | refine blk_drewN ?_ _ | refine blk_drew ?_ | refine blk_alloc ?_ _)); exact BK229.out⟩, ⟨by repeat (first | (with_reducible first | exact HB.out | apply below_alloc | apply pw_below_drewN | apply below_drew1 | refine below_set ?_ GE229.out) | exact HB.out)⟩⟩
       ·rw [if_neg c19] at H
        have c19b0 : (t236 == 0) = false := beq_eq_false_iff_ne.mpr c19
        have c19b1 : (t236 != 0) = true := bne_iff_ne.mpr c19
        (first | rw [c19b0] | (simp only [i64_w, i32_w]; rw [c19b0]) | skip)
        have H' := Aside0.mk H
        clear H
        go_wp2
        go_meet
        case rel => exact ⟨_, (true), (by first | rfl | (simp; done) | (simp [*]; done)), H', ⟨by have := HK1.out; first | omega | exact Nat.le_refl _⟩, ⟨by (with_reducible repeat (first | apply Kd.R_alloc | apply Kd.R_drewN | apply Kd.R_drew)); exact Kd.R_mono HO_7.out (fun _ hk => hk.2)⟩, ⟨by (with_reducible repeat (first | apply Kd.R_alloc | apply Kd.R_drewN | apply Kd.R_drew)); exact Kd.R_mono HO235.out (fun _ hk => hk.2)⟩, ⟨by (with_reducible repeat (first | apply Kd.R_alloc | apply Kd.R_drewN | apply Kd.R_drew)); exact HO_230001.out⟩, ⟨by (with_reducible repeat (first | refine blk_drewN ?_ _ | refine blk_drew ?_ | refine blk_alloc ?_ _)); exact BK229.out⟩, ⟨by repeat (first | (with_reducible first | exact HB.out | apply below_alloc | apply pw_below_drewN | apply below_drew1 | refine below_set ?_ GE229.out) | exact HB.out)⟩⟩
      case rest =>
       clear HC16
       try clear c1
       try clear p2
       try clear c4
       try clear c5
       try clear c5b0
       try clear c5b1
       try clear c6
       try clear c6b0
       try clear c6b1
       try clear c7
       try clear c8
       try clear c14
       try clear c14b0
       try clear c19
       try clear c19b0
       try clear c19b1
       try clear hcz10_0
       try clear hcz10_1
       try clear hcz10_2
       try clear hcz17_0
       try clear hcz17_1
       try clear hcz17_2
       try clear hcz21_0
       try clear hcz21_1
       try clear hcz21_2
       try clear hfz10_0
       try clear hfz10_1
       try clear hfz10_2
       try clear hfz17_0
       try clear hfz17_1
       try clear hfz17_2
       try clear hfz21_0
       try clear hfz21_1
       try clear hfz21_2
       try clear p2
       obtain ⟨kq, x48_15, rfl, HA, HJ15, HO_7, HO_9, HO_230001, BK229, HB⟩ := hcut
       cases kq with
       | zero => exact absurd HA.out (by simp [airchecklaw24_BookSums.j1])
       | succ kj15 =>
        have H := HA.out
        clear HA
        simp only [airchecklaw24_BookSums.j1] at H
        by_cases c22 : x48_15 = true
        ·subst c22
         have H1 : (some false) = some r := by rw [if_pos rfl] at H; exact H
         clear H
         have H := H1
         clear H1
         obtain rfl := Option.some.inj H
         go_wp2
         go_ret
         exact ⟨by first | rfl | (simp [errW_none, errW_some] <;> rfl) | (simp [*, errW_none, errW_some] <;> rfl), by repeat (first | (with_reducible first | exact HB.out | apply below_alloc | apply pw_below_drewN | apply below_drew1 | refine below_set ?_ GE229.out) | exact HB.out)⟩
        ·replace c22 := Bool.eq_false_iff.mpr c22
         subst c22
         have H1 : (airchecklaw24_BookSums.l1 kj15 t223 x7_1 x8_1 t233 0 0 t224 t225 t228) = some r := by rw [if_neg (show ¬ (false = true) by decide)] at H; exact H
         clear H
         have H := H1
         clear H1
         have H' := Aside0.mk H
         clear H
         go_wp2
         go_loopg [11, 12] kj15 (fun kq v11 v12 w' => ∃ (x7_3 : List Int) (x11_3 : Int) (x12_3 : Int), v11 = .int .i64 x11_3 ∧ v12 = .int .i64 x12_3 ∧ Aside0 (airchecklaw24_BookSums.l1 kq t223 x7_3 x8_1 t233 x11_3 x12_3 t224 t225 t228 = some r) ∧ Aside0 (kq ≤ kj15) ∧ Aside0 (Kd.R (Kd.int .i64) 3 w' w.heap.size (fun k_ => some k_ ≠ (v234 : Value).ownBlock) v231 x7_3) ∧ Aside0 (Kd.R (Kd.int .i64) 3 w' w.heap.size (fun k_ => some k_ ≠ (v231 : Value).ownBlock) v234 t233) ∧ Aside0 (Kd.R k27 27 w' w.heap.size (fun _ => True) (.slice Ao11 t225.length co11) t225) ∧ Aside0 (w'.heap[gb229]? = some (.cells #[.int .i64 t224, (.slice Ao11 t225.length co11), .int .i64 t228] 24 (0, 0))) ∧ Aside0 (Below w.heap.size w w'))
         case atStart => exact ⟨(x7_1), (0), (0), (by first | rfl | (simp; done) | (simp [*]; done)), (by first | rfl | (simp; done) | (simp [*]; done)), H', ⟨Nat.le_refl _⟩, ⟨by (with_reducible repeat (first | apply Kd.R_alloc | apply Kd.R_drewN | apply Kd.R_drew)); exact HO_7.out⟩, ⟨by (with_reducible repeat (first | apply Kd.R_alloc | apply Kd.R_drewN | apply Kd.R_drew)); exact HO_9.out⟩, ⟨by (with_reducible repeat (first | apply Kd.R_alloc | apply Kd.R_drewN | apply Kd.R_drew)); exact HO_230001.out⟩, ⟨by (with_reducible repeat (first | refine blk_drewN ?_ _ | refine blk_drew ?_ | refine blk_alloc ?_ _)); exact BK229.out⟩, ⟨by repeat (first | (with_reducible first | exact HB.out | apply below_alloc | apply pw_below_drewN | apply below_drew1 | refine below_set ?_ GE229.out) | exact HB.out)⟩⟩
         case round =>
          clear H'
          try clear c1
          try clear c2
          try clear p2
          try clear c4
          try clear c5
          try clear c5b0
          try clear c5b1
          try clear c6
          try clear c6b0
          try clear c6b1
          try clear c7
          try clear c8
          try clear c14
          try clear c14b0
          try clear c19
          try clear c19b0
          try clear c19b1
          try clear c22
          try clear hcz10_0
          try clear hcz10_1
          try clear hcz10_2
          try clear hcz17_0
          try clear hcz17_1
          try clear hcz17_2
          try clear hcz21_0
          try clear hcz21_1
          try clear hcz21_2
          try clear hfz10_0
          try clear hfz10_1
          try clear hfz10_2
          try clear hfz17_0
          try clear hfz17_1
          try clear hfz17_2
          try clear hfz21_0
          try clear hfz21_1
          try clear hfz21_2
          try clear p2
          obtain ⟨x7_3, x11_3, x12_3, rfl, rfl, HA, HK3, HO_7, HO_9, HO_230001, BK229, HB⟩ := hrel
          cases gk with
          | zero => exact absurd HA.out (by simp [airchecklaw24_BookSums.l1])
          | succ k3 =>
           have H := HA.out
           clear HA
           simp only [airchecklaw24_BookSums.l1] at H
           by_cases c23 : x12_3 < t224
           ·rw [if_pos c23] at H
            have c23b0 : decide (x12_3 < t224) = true := decide_eq_true c23
            clear c23
            replace H := Option.bind_eq_some_iff.mp H
            obtain ⟨⟨t237, t238⟩, A240, H⟩ := H
            replace H : (if t238 = 0 then (if 0 ≤ x12_3 then (if x12_3 < (t233.length : Int) then (if t237 = (rd t233 x12_3) then (if x12_3 < (x7_3.length : Int) then (airchecklaw24_BookSums.l1 k3 t223 (x7_3.set (x12_3 : Int).toNat (wrap64 ((rd x7_3 x12_3) + (rd t233 x12_3)))) x8_1 t233 (wrap64 (x11_3 + (rd t233 x12_3))) (wrap64 (x12_3 + 1)) t224 t225 t228) else (none)) else (some false)) else (none)) else (none)) else (some false)) = some r := H
            have A24 := Aside0.mk A240
            clear A240
            by_cases c25 : t238 = 0
            ·rw [if_pos c25] at H
             have c25b0 : (t238 == 0) = true := beq_iff_eq.mpr c25
             have c25b1 : (t238 != 0) = false := bne_eq_false_iff_eq.mpr c25
             clear c25
             by_cases c26 : 0 ≤ x12_3
             ·rw [if_pos c26] at H
              have c26b0 : decide (0 ≤ x12_3) = true := decide_eq_true c26
              clear c26
              by_cases c27 : x12_3 < (t233.length : Int)
              ·rw [if_pos c27] at H
               have c27b0 : decide (x12_3 < (t233.length : Int)) = true := decide_eq_true c27
               clear c27
               by_cases c28 : t237 = (rd t233 x12_3)
               ·rw [if_pos c28] at H
                have c28b0 : (t237 == (rd t233 x12_3)) = true := beq_iff_eq.mpr c28
                have c28b1 : (t237 != (rd t233 x12_3)) = false := bne_eq_false_iff_eq.mpr c28
                clear c28
                by_cases c29 : x12_3 < (x7_3.length : Int)
                ·rw [if_pos c29] at H
                 have c29b0 : decide (x12_3 < (x7_3.length : Int)) = true := decide_eq_true c29
                 clear c29
                 obtain ⟨y243, hy243⟩ : ∃ y_ : List Int, y_ = (x7_3.set (x12_3 : Int).toNat (wrap64 ((rd x7_3 x12_3) + (rd t233 x12_3)))) := ⟨_, rfl⟩
                 replace H : (airchecklaw24_BookSums.l1 k3 t223 y243 x8_1 t233 (wrap64 (x11_3 + (rd t233 x12_3))) (wrap64 (x12_3 + 1)) t224 t225 t228) = some r := by first | (rw [hy243]; with_reducible exact H) | (have H2_ := (Option.bind_some _ _).symm.trans H; rw [hy243]; with_reducible exact H2_) | (have H2_ := (Option.bind_some _ _).symm.trans H; with_reducible exact H2_) | with_reducible exact H | (rw [hy243]; exact H) | exact H
                 have Ny243 := Aside0.mk hy243
                 clear hy243
                 have H' := Aside0.mk H
                 clear H
                 have hcz31_0 : wr.cell? ⟨gb229, 0, none⟩ = some (.int .i64 t224) := (blk_cell BK229.out 0).trans rfl
                 have hcz31_1 : wr.cell? ⟨gb229, 1, none⟩ = some (.slice Ao11 t225.length co11) := (blk_cell BK229.out 1).trans rfl
                 have hcz31_2 : wr.cell? ⟨gb229, 2, none⟩ = some (.int .i64 t228) := (blk_cell BK229.out 2).trans rfl
                 have hfz31_0 := blk_frozen BK229.out 0
                 have hfz31_1 := blk_frozen BK229.out 1
                 have hfz31_2 := blk_frozen BK229.out 2
                 try go_wp2_with (first | ((with_reducible refine gate_callee (f := 21) rfl ?_); refine goesL_ (some 59) rfl rfl Try.func21 (by kernel_rfl) rfl #[.agg #[.int .i64 t224, .slice Ao11 t225.length co11, .int .i64 t228], .int .i64 x12_3, .int .i64 x8_1] rfl (by (try simp only [List.map_toArray, List.map_cons, List.map_nil]); first | done | rfl | (simp only [List.length_drop, List.length_take]; rfl)) ?_; (with_reducible refine (book_Balance.calls t224 _ _ t225 t228 x12_3 x8_1 t237 t238 _ ?side1 ?side2 A24.out).mono ?_); (case side1 => repeat (first | exact (Kd.R_reads' HO_230001.out).2.2 | (with_reducible refine Kd.C_alloc ?_ _) | (with_reducible refine Kd.C_drewN ?_ _) | (with_reducible refine Kd.C_drew ?_))); (case side2 => exact (Kd.R_reads' HO_230001.out).2.1); rintro e w32 ⟨rfl, hb⟩; refine ⟨_, rfl, ?_⟩; have n0_ := Aside0.mk (Kd.R_below (by (with_reducible repeat (first | apply Kd.R_alloc | apply Kd.R_drewN | apply Kd.R_drew)); exact HO_7.out) hb); have n1_ := Aside0.mk (Kd.R_below (by (with_reducible repeat (first | apply Kd.R_alloc | apply Kd.R_drewN | apply Kd.R_drew)); exact HO_9.out) hb); have n2_ := Aside0.mk (Kd.R_below (by (with_reducible repeat (first | apply Kd.R_alloc | apply Kd.R_drewN | apply Kd.R_drew)); exact HO_230001.out) hb); have n3_ := Aside0.mk (blk_below (g := gb229) (o := .cells #[.int .i64 t224, .slice Ao11 t225.length co11, .int .i64 t228] 24 (0, 0)) (by (with_reducible repeat (first | refine blk_drewN ?_ _ | refine blk_drew ?_ | refine blk_alloc ?_ _)); exact BK229.out) hb); have n4_ := Aside0.mk (below_step (by repeat (first | (with_reducible first | exact HB.out | apply below_alloc | apply pw_below_drewN | apply below_drew1 | refine below_set ?_ GE229.out) | exact HB.out)) hb); clear HO_7; clear HO_9; clear HO_230001; clear BK229; clear HB; have HO_7 := n0_; have HO_9 := n1_; have HO_230001 := n2_; have BK229 := n3_; have HB := n4_; clear n0_ n1_ n2_ n3_ n4_; (try clear hb); (try clear hb2); (try clear hk); (try clear hi); obtain ⟨Ao33, co33, eo33⟩ := Kd.R_slice HO_9.out; subst eo33; have p239 : 0 ≤ (x12_3 : Int) := of_decide_eq_true (by first | (with_reducible assumption) | assumption); have q239 : x12_3 < (t233.length : Int) := of_decide_eq_true (by first | (with_reducible assumption) | assumption); obtain ⟨ad239, e239, hx239_0⟩ := Kd.at_int (Kd.R_reads' HO_9.out).2.2 x12_3 p239 q239; cases e239; replace p239 := eq_true p239; replace q239 := eq_true q239; have p240 : 0 ≤ (x12_3 : Int) := of_decide_eq_true (by first | (with_reducible assumption) | assumption); have q240 : x12_3 < (t233.length : Int) := of_decide_eq_true (by first | (with_reducible assumption) | assumption); obtain ⟨ad240, e240, hx240_0⟩ := Kd.at_int (Kd.R_reads' HO_9.out).2.2 x12_3 p240 q240; obtain rfl : ad239 = ad240 := (by injection e240); replace p240 := eq_true p240; replace q240 := eq_true q240))
                 have n0_ := Aside0.mk (Kd.R_drew HO_7.out)
                 have n1_ := Aside0.mk (Kd.R_drew HO_9.out)
                 have n2_ := Aside0.mk (Kd.R_drew HO_230001.out)
                 have n3_ := Aside0.mk (blk_drew BK229.out)
                 have n4_ := Aside0.mk (below_drew1 HB.out)
                 clear HO_7
                 clear HO_9
                 clear HO_230001
                 clear BK229
                 clear HB
                 have HO_7 := n0_
                 have HO_9 := n1_
                 have HO_230001 := n2_
                 have BK229 := n3_
                 have HB := n4_
                 clear n0_ n1_ n2_ n3_ n4_
                 obtain ⟨Ao35, co35, eo35⟩ := Kd.R_slice HO_7.out
                 (first | subst eo35 | (injection eo35 with f1_ f2_ f3_; have f4_ := f1_.symm; have f5_ := f3_.symm; clear f1_ f2_ f3_; subst f4_; subst f5_))
                 have p241 : 0 ≤ (x12_3 : Int) := of_decide_eq_true (by first | (with_reducible assumption) | assumption)
                 have q241 : x12_3 < (x7_3.length : Int) := of_decide_eq_true (by first | (with_reducible assumption) | assumption)
                 obtain ⟨ad241, e241, hx241_0⟩ := Kd.at_int (Kd.R_reads' HO_7.out).2.2 x12_3 p241 q241
                 cases e241
                 replace p241 := eq_true p241
                 replace q241 := eq_true q241
                 have p242 : 0 ≤ (x12_3 : Int) := of_decide_eq_true (by first | (with_reducible assumption) | assumption)
                 have q242 : x12_3 < (t233.length : Int) := of_decide_eq_true (by first | (with_reducible assumption) | assumption)
                 obtain ⟨ad242, e242, hx242_0⟩ := Kd.at_int (Kd.R_reads' HO_9.out).2.2 x12_3 p242 q242
                 obtain rfl : ad239 = ad242 := (by injection e242)
                 replace p242 := eq_true p242
                 replace q242 := eq_true q242
                 have p30 : 0 ≤ (x12_3 : Int) := of_decide_eq_true (by first | (with_reducible assumption) | assumption)
                 have q30 : (x12_3 : Int) < ((x7_3.length : Int) : Int) := of_decide_eq_true (by first | (with_reducible assumption) | assumption)
                 obtain ⟨go30, co30, eo30, gb30, gl30, cl30, HG30⟩ := Kd.R_form HO_7.out (by omega)
                 (first | cases eo30 | (injection eo30 with ea_ en_ ec_; (first | subst ea_ | (injection ea_ with ea_; subst ea_)); subst ec_; clear en_))
                 have GB30 := Aside0.mk gb30
                 have GG30 := Aside0.mk HG30
                 clear gb30 gl30 HG30
                 (first | simp only [add_plain] at hx241_0 | skip)
                 obtain ⟨hx30_0, hf30_0⟩ := Kd.R_celln 0 HO_7.out (x12_3 : Int) p30 q30
                 replace p30 := eq_true p30
                 replace q30 := eq_true q30
                 have HP36 := Kd.R_putn HO_7.out (x12_3 : Int) (wrap64 ((rd x7_3 x12_3) + (rd t233 x12_3)))
                 rw [← Ny243.out] at HP36
                 have HQ36 := Aside0.mk HP36
                 clear HP36
                 refine start_ (n := 13) (S := fun w' => w'.cell? ⟨go30, (x12_3).toNat, none⟩ = some (.int .i64 (rd x7_3 x12_3)) ∧ w'.cell? (ad239.add (x12_3).toNat) = some (.int .i64 (rd t233 x12_3))) (ds := [12]) #[false, false, false, false, false, false, false, false, false, false, false, false, false] (by kernel_rfl) rfl rfl ⟨hx241_0, hx242_0⟩ (fun hHeld => ?_); refine with_tabW airchecklaw24_BookSums.tab18 airchecklaw24_BookSums.bits18 (fun HT_ HW_ => ?_)
                 generalize w32.drew = w34 at HO_7 HO_9 HO_230001 BK229 HB GG30 HQ36 hf30_0 hx241_0 hx242_0 hx30_0 hHeld ⊢
                 refine pure_ (i := 0) (N := some 78) (v := ?_) (a' := ?_) #[true, false, false, false, false, false, false, false, false, false, false, false, false] rfl rfl (any_of HT_.out (by kernel_rfl)) (fun _ _ _ h => h) (Or.inl ⟨by rfl, ?_⟩) ?_ ?_
                 rotate_left
                 ·intro w'
                  go_simp
                  with_reducible rfl
                 rotate_left
                 ·simp only [Act.put, List.setIfInBounds_toArray, List.set_cons_zero, List.set_cons_succ, i64_w, i32_w]
                  rfl
                 refine pure_ (i := 1) (N := some 79) (v := ?_) (a' := ?_) #[true, true, false, false, false, false, false, false, false, false, false, false, false] rfl rfl (any_of HT_.out (by kernel_rfl)) (fun _ _ _ h => h) (Or.inl ⟨by rfl, ?_⟩) ?_ ?_
                 rotate_left
                 ·intro w'
                  go_simp
                  with_reducible rfl
                 rotate_left
                 ·simp only [Act.put, List.setIfInBounds_toArray, List.set_cons_zero, List.set_cons_succ, i64_w, i32_w]
                  rfl
                 refine pure_ (i := 2) (N := some 80) (v := ?_) (a' := ?_) #[true, true, true, false, false, false, false, false, false, false, false, false, false] rfl rfl (any_of HT_.out (by kernel_rfl)) (fun _ _ _ h => h) (Or.inl ⟨by rfl, ?_⟩) ?_ ?_
                 rotate_left
                 ·intro w'
                  go_simp
                  with_reducible rfl
                 rotate_left
                 ·simp only [Act.put, List.setIfInBounds_toArray, List.set_cons_zero, List.set_cons_succ, i64_w, i32_w]
                  rfl
                 refine pure_ (i := 3) (N := some 81) (v := ?_) (a' := ?_) #[true, true, true, true, false, false, false, false, false, false, false, false, false] rfl rfl (any_of HT_.out (by kernel_rfl)) (fun _ _ _ h => h) (Or.inl ⟨by rfl, ?_⟩) ?_ ?_
                 rotate_left
                 ·intro w'
                  go_simp
                  with_reducible rfl
                 rotate_left
                 ·simp only [Act.put, List.setIfInBounds_toArray, List.set_cons_zero, List.set_cons_succ, i64_w, i32_w]
                  rfl
                 refine pure_ (i := 4) (N := some 82) (v := ?_) (a' := ?_) #[true, true, true, true, true, false, false, false, false, false, false, false, false] rfl rfl (any_of HT_.out (by kernel_rfl)) (fun _ _ _ h => h) (Or.inl ⟨by rfl, ?_⟩) ?_ ?_
                 rotate_left
                 ·intro w'
                  go_simp
                  with_reducible rfl
                 rotate_left
                 ·simp only [Act.put, List.setIfInBounds_toArray, List.set_cons_zero, List.set_cons_succ, i64_w, i32_w]
                  rfl
                 refine pure_ (i := 6) (N := some 84) (v := ?_) (a' := ?_) #[true, true, true, true, true, false, true, false, false, false, false, false, false] rfl rfl (any_of HT_.out (by kernel_rfl)) (fun _ _ _ h => h) (Or.inl ⟨by rfl, ?_⟩) ?_ ?_
                 rotate_left
                 ·intro w'
                  go_simp
                  with_reducible rfl
                 rotate_left
                 ·simp only [Act.put, List.setIfInBounds_toArray, List.set_cons_zero, List.set_cons_succ, i64_w, i32_w]
                  rfl
                 refine pure_ (i := 7) (N := some 85) (v := ?_) (a' := ?_) #[true, true, true, true, true, false, true, true, false, false, false, false, false] rfl rfl (any_of HT_.out (by kernel_rfl)) (fun _ _ _ h => h) (Or.inl ⟨by rfl, ?_⟩) ?_ ?_
                 rotate_left
                 ·intro w'
                  go_simp
                  with_reducible rfl
                 rotate_left
                 ·simp only [Act.put, List.setIfInBounds_toArray, List.set_cons_zero, List.set_cons_succ, i64_w, i32_w]
                  rfl
                 refine pure_ (i := 8) (N := some 86) (v := ?_) (a' := ?_) #[true, true, true, true, true, false, true, true, true, false, false, false, false] rfl rfl (any_of HT_.out (by kernel_rfl)) (fun _ _ _ h => h) (Or.inl ⟨by rfl, ?_⟩) ?_ ?_
                 rotate_left
                 ·intro w'
                  go_simp
                  with_reducible rfl
                 rotate_left
                 ·simp only [Act.put, List.setIfInBounds_toArray, List.set_cons_zero, List.set_cons_succ, i64_w, i32_w]
                  rfl
                 refine take_ (i := 5) (N := some 83) (v := ?_) (a' := ?_) #[true, true, true, true, true, true, true, true, true, false, false, false, false] rfl rfl (take_ofW HT_.out HW_.out (by kernel_rfl)) (fun _ _ _ h => h) (Or.inl ⟨by rfl, ?_⟩) hHeld ?_ ?_
                 rotate_left
                 ·rintro w' ⟨s0, s1⟩
                  go_simp
                  with_reducible rfl
                 rotate_left
                 ·simp only [Act.put, List.setIfInBounds_toArray, List.set_cons_zero, List.set_cons_succ, i64_w, i32_w]
                  rfl
                 refine take_ (i := 9) (N := some 87) (v := ?_) (a' := ?_) #[true, true, true, true, true, true, true, true, true, true, false, false, false] rfl rfl (take_ofW HT_.out HW_.out (by kernel_rfl)) (fun _ _ _ h => h) (Or.inl ⟨by rfl, ?_⟩) hHeld ?_ ?_
                 rotate_left
                 ·rintro w' ⟨s0, s1⟩
                  go_simp
                  with_reducible rfl
                 rotate_left
                 ·simp only [Act.put, List.setIfInBounds_toArray, List.set_cons_zero, List.set_cons_succ, i64_w, i32_w]
                  rfl
                 refine pure_ (i := 10) (N := some 88) (v := ?_) (a' := ?_) #[true, true, true, true, true, true, true, true, true, true, true, false, false] rfl rfl (any_of HT_.out (by kernel_rfl)) (fun _ _ _ h => h) (Or.inl ⟨by rfl, ?_⟩) ?_ ?_
                 rotate_left
                 ·intro w'
                  go_simp
                  with_reducible rfl
                 rotate_left
                 ·simp only [Act.put, List.setIfInBounds_toArray, List.set_cons_zero, List.set_cons_succ, i64_w, i32_w]
                  rfl
                 refine pure_ (i := 11) (N := some 89) (v := ?_) (a' := ?_) #[true, true, true, true, true, true, true, true, true, true, true, true, false] rfl rfl (any_of HT_.out (by kernel_rfl)) (fun _ _ _ h => h) (Or.inl ⟨by rfl, ?_⟩) ?_ ?_
                 rotate_left
                 ·intro w'
                  go_simp
                  with_reducible rfl
                 rotate_left
                 ·simp only [Act.put, List.setIfInBounds_toArray, List.set_cons_zero, List.set_cons_succ, i64_w, i32_w]
                  rfl
                 refine last_ (i := 12) (N := none) #[true, true, true, true, true, true, true, true, true, true, true, true, true] rfl rfl (one_of HT_.out (by kernel_rfl)) (by decide) (fun K hK => ?_)
                 refine skip_ (w1 := ?_) (by rfl) rfl ?_ ?_
                 rotate_left
                 ·go_simp
                  rfl
                 refine hK.out _ _ ?_
                 clear hK K
                 refine done_ (done_of HT_.out (by kernel_rfl)) ?_
                 try go_wp2
                 go_roundg k3
                 case measure => have := HK1.out; have := HJ15.out; have := HK3.out; omega
                 case rel => exact ⟨(y243), (wrap64 (x11_3 + (rd t233 x12_3))), (wrap64 (x12_3 + 1)), (by first | rfl | (simp; done) | (simp [*]; done)), (by first | rfl | (simp; done) | (simp [*]; done)), H', ⟨by have := HK1.out; have := HJ15.out; have := HK3.out; omega⟩, ⟨by (with_reducible repeat (first | apply Kd.R_alloc | apply Kd.R_drewN | apply Kd.R_drew)); exact HQ36.out⟩, ⟨by (with_reducible repeat (first | apply Kd.R_alloc | apply Kd.R_drewN | apply Kd.R_drew)); exact Kd.R_mono (Kd.R_far (p := ⟨go30, (x12_3 : Int).toNat, none⟩) (Kd.R_mono HO_9.out (fun k_ hk => (⟨hk, fun e_ => hk (by rw [e_]; rfl)⟩ : _ ∧ k_ ≠ go30))) (fun _ hk => hk.2) (.int .i64 (wrap64 ((rd x7_3 x12_3) + (rd t233 x12_3))))) (fun _ hk => hk.1)⟩, ⟨by (with_reducible repeat (first | apply Kd.R_alloc | apply Kd.R_drewN | apply Kd.R_drew)); exact Kd.R_mono (Kd.R_far (p := ⟨go30, (x12_3 : Int).toNat, none⟩) (Kd.R_types HO_230001.out GG30.out (by decide)) (fun _ hk => hk.2) (.int .i64 (wrap64 ((rd x7_3 x12_3) + (rd t233 x12_3))))) (fun _ hk => trivial)⟩, ⟨by (with_reducible repeat (first | refine blk_drewN ?_ _ | refine blk_drew ?_ | refine blk_alloc ?_ _)); refine blk_far ?_ (by have h_ := Kd.R_ne HO_7.out BK229.out (by decide); intro e_; exact h_ (by rw [e_]; rfl)) _; (with_reducible repeat (first | refine blk_drewN ?_ _ | refine blk_drew ?_ | refine blk_alloc ?_ _)); exact BK229.out⟩, ⟨by repeat (first | (with_reducible first | exact HB.out | apply below_alloc | apply pw_below_drewN | apply below_drew1 | refine below_set ?_ GB30.out | refine below_set ?_ GE229.out) | exact HB.out)⟩⟩
                ·rw [if_neg c29] at H
                 exact absurd H (by simp)
               ·rw [if_neg c28] at H
                have c28b0 : (t237 == (rd t233 x12_3)) = false := beq_eq_false_iff_ne.mpr c28
                have c28b1 : (t237 != (rd t233 x12_3)) = true := bne_iff_ne.mpr c28
                obtain rfl := Option.some.inj H
                have hcz37_0 : wr.cell? ⟨gb229, 0, none⟩ = some (.int .i64 t224) := (blk_cell BK229.out 0).trans rfl
                have hcz37_1 : wr.cell? ⟨gb229, 1, none⟩ = some (.slice Ao11 t225.length co11) := (blk_cell BK229.out 1).trans rfl
                have hcz37_2 : wr.cell? ⟨gb229, 2, none⟩ = some (.int .i64 t228) := (blk_cell BK229.out 2).trans rfl
                have hfz37_0 := blk_frozen BK229.out 0
                have hfz37_1 := blk_frozen BK229.out 1
                have hfz37_2 := blk_frozen BK229.out 2
                go_wp2_with (first | ((with_reducible refine gate_callee (f := 21) rfl ?_); refine goesL_ (some 59) rfl rfl Try.func21 (by kernel_rfl) rfl #[.agg #[.int .i64 t224, .slice Ao11 t225.length co11, .int .i64 t228], .int .i64 x12_3, .int .i64 x8_1] rfl (by (try simp only [List.map_toArray, List.map_cons, List.map_nil]); first | done | rfl | (simp only [List.length_drop, List.length_take]; rfl)) ?_; (with_reducible refine (book_Balance.calls t224 _ _ t225 t228 x12_3 x8_1 t237 t238 _ ?side1 ?side2 A24.out).mono ?_); (case side1 => repeat (first | exact (Kd.R_reads' HO_230001.out).2.2 | (with_reducible refine Kd.C_alloc ?_ _) | (with_reducible refine Kd.C_drewN ?_ _) | (with_reducible refine Kd.C_drew ?_))); (case side2 => exact (Kd.R_reads' HO_230001.out).2.1); rintro e w38 ⟨rfl, hb⟩; refine ⟨_, rfl, ?_⟩; have n0_ := Aside0.mk (Kd.R_below (by (with_reducible repeat (first | apply Kd.R_alloc | apply Kd.R_drewN | apply Kd.R_drew)); exact HO_7.out) hb); have n1_ := Aside0.mk (Kd.R_below (by (with_reducible repeat (first | apply Kd.R_alloc | apply Kd.R_drewN | apply Kd.R_drew)); exact HO_9.out) hb); have n2_ := Aside0.mk (Kd.R_below (by (with_reducible repeat (first | apply Kd.R_alloc | apply Kd.R_drewN | apply Kd.R_drew)); exact HO_230001.out) hb); have n3_ := Aside0.mk (blk_below (g := gb229) (o := .cells #[.int .i64 t224, .slice Ao11 t225.length co11, .int .i64 t228] 24 (0, 0)) (by (with_reducible repeat (first | refine blk_drewN ?_ _ | refine blk_drew ?_ | refine blk_alloc ?_ _)); exact BK229.out) hb); have n4_ := Aside0.mk (below_step (by repeat (first | (with_reducible first | exact HB.out | apply below_alloc | apply pw_below_drewN | apply below_drew1 | refine below_set ?_ GE229.out) | exact HB.out)) hb); clear HO_7; clear HO_9; clear HO_230001; clear BK229; clear HB; have HO_7 := n0_; have HO_9 := n1_; have HO_230001 := n2_; have BK229 := n3_; have HB := n4_; clear n0_ n1_ n2_ n3_ n4_; (try clear hb); (try clear hb2); (try clear hk); (try clear hi); obtain ⟨Ao39, co39, eo39⟩ := Kd.R_slice HO_9.out; subst eo39; have p239 : 0 ≤ (x12_3 : Int) := of_decide_eq_true (by first | (with_reducible assumption) | assumption); have q239 : x12_3 < (t233.length : Int) := of_decide_eq_true (by first | (with_reducible assumption) | assumption); obtain ⟨ad239, e239, hx239_0⟩ := Kd.at_int (Kd.R_reads' HO_9.out).2.2 x12_3 p239 q239; cases e239; replace p239 := eq_true p239; replace q239 := eq_true q239))
                go_ret
                exact ⟨by first | rfl | (simp [errW_none, errW_some] <;> rfl) | (simp [*, errW_none, errW_some] <;> rfl), by repeat (first | (with_reducible first | exact HB.out | apply below_alloc | apply pw_below_drewN | apply below_drew1 | refine below_set ?_ GE229.out) | exact HB.out)⟩
              ·rw [if_neg c27] at H
               exact absurd H (by simp)
             ·rw [if_neg c26] at H
              exact absurd H (by simp)
            ·rw [if_neg c25] at H
             have c25b0 : (t238 == 0) = false := beq_eq_false_iff_ne.mpr c25
             have c25b1 : (t238 != 0) = true := bne_iff_ne.mpr c25
             obtain rfl := Option.some.inj H
             have hcz40_0 : wr.cell? ⟨gb229, 0, none⟩ = some (.int .i64 t224) := (blk_cell BK229.out 0).trans rfl
             have hcz40_1 : wr.cell? ⟨gb229, 1, none⟩ = some (.slice Ao11 t225.length co11) := (blk_cell BK229.out 1).trans rfl
             have hcz40_2 : wr.cell? ⟨gb229, 2, none⟩ = some (.int .i64 t228) := (blk_cell BK229.out 2).trans rfl
             have hfz40_0 := blk_frozen BK229.out 0
             have hfz40_1 := blk_frozen BK229.out 1
             have hfz40_2 := blk_frozen BK229.out 2
             go_wp2_with (first | ((with_reducible refine gate_callee (f := 21) rfl ?_); refine goesL_ (some 59) rfl rfl Try.func21 (by kernel_rfl) rfl #[.agg #[.int .i64 t224, .slice Ao11 t225.length co11, .int .i64 t228], .int .i64 x12_3, .int .i64 x8_1] rfl (by (try simp only [List.map_toArray, List.map_cons, List.map_nil]); first | done | rfl | (simp only [List.length_drop, List.length_take]; rfl)) ?_; (with_reducible refine (book_Balance.calls t224 _ _ t225 t228 x12_3 x8_1 t237 t238 _ ?side1 ?side2 A24.out).mono ?_); (case side1 => repeat (first | exact (Kd.R_reads' HO_230001.out).2.2 | (with_reducible refine Kd.C_alloc ?_ _) | (with_reducible refine Kd.C_drewN ?_ _) | (with_reducible refine Kd.C_drew ?_))); (case side2 => exact (Kd.R_reads' HO_230001.out).2.1); rintro e w41 ⟨rfl, hb⟩; refine ⟨_, rfl, ?_⟩; have n0_ := Aside0.mk (Kd.R_below (by (with_reducible repeat (first | apply Kd.R_alloc | apply Kd.R_drewN | apply Kd.R_drew)); exact HO_7.out) hb); have n1_ := Aside0.mk (Kd.R_below (by (with_reducible repeat (first | apply Kd.R_alloc | apply Kd.R_drewN | apply Kd.R_drew)); exact HO_9.out) hb); have n2_ := Aside0.mk (Kd.R_below (by (with_reducible repeat (first | apply Kd.R_alloc | apply Kd.R_drewN | apply Kd.R_drew)); exact HO_230001.out) hb); have n3_ := Aside0.mk (blk_below (g := gb229) (o := .cells #[.int .i64 t224, .slice Ao11 t225.length co11, .int .i64 t228] 24 (0, 0)) (by (with_reducible repeat (first | refine blk_drewN ?_ _ | refine blk_drew ?_ | refine blk_alloc ?_ _)); exact BK229.out) hb); have n4_ := Aside0.mk (below_step (by repeat (first | (with_reducible first | exact HB.out | apply below_alloc | apply pw_below_drewN | apply below_drew1 | refine below_set ?_ GE229.out) | exact HB.out)) hb); clear HO_7; clear HO_9; clear HO_230001; clear BK229; clear HB; have HO_7 := n0_; have HO_9 := n1_; have HO_230001 := n2_; have BK229 := n3_; have HB := n4_; clear n0_ n1_ n2_ n3_ n4_; (try clear hb); (try clear hb2); (try clear hk); (try clear hi)))
             go_ret
             exact ⟨by first | rfl | (simp [errW_none, errW_some] <;> rfl) | (simp [*, errW_none, errW_some] <;> rfl), by repeat (first | (with_reducible first | exact HB.out | apply below_alloc | apply pw_below_drewN | apply below_drew1 | refine below_set ?_ GE229.out) | exact HB.out)⟩
           ·rw [if_neg c23] at H
            have c23b0 : decide (x12_3 < t224) = false := decide_eq_false c23
            clear c23
            by_cases c42 : x11_3 = 0
            ·rw [if_pos c42] at H
             have c42b0 : (x11_3 == 0) = true := beq_iff_eq.mpr c42
             have c42b1 : (x11_3 != 0) = false := bne_eq_false_iff_eq.mpr c42
             clear c42
             have H' := Aside0.mk H
             clear H
             have hcz43_0 : wr.cell? ⟨gb229, 0, none⟩ = some (.int .i64 t224) := (blk_cell BK229.out 0).trans rfl
             have hcz43_1 : wr.cell? ⟨gb229, 1, none⟩ = some (.slice Ao11 t225.length co11) := (blk_cell BK229.out 1).trans rfl
             have hcz43_2 : wr.cell? ⟨gb229, 2, none⟩ = some (.int .i64 t228) := (blk_cell BK229.out 2).trans rfl
             have hfz43_0 := blk_frozen BK229.out 0
             have hfz43_1 := blk_frozen BK229.out 1
             have hfz43_2 := blk_frozen BK229.out 2
             go_wp2
             go_roundg k3
             case measure => have := HK1.out; have := HJ15.out; have := HK3.out; omega
             case rel => exact ⟨(x7_3), (wrap64 (x8_1 + 1)), (by first | rfl | (simp; done) | (simp [*]; done)), H', ⟨by have := HK1.out; have := HJ15.out; have := HK3.out; omega⟩, ⟨by (with_reducible repeat (first | apply Kd.R_alloc | apply Kd.R_drewN | apply Kd.R_drew)); exact Kd.R_mono HO_7.out (fun _ hk => trivial)⟩, ⟨by (with_reducible repeat (first | apply Kd.R_alloc | apply Kd.R_drewN | apply Kd.R_drew)); exact HO_230001.out⟩, ⟨by (with_reducible repeat (first | refine blk_drewN ?_ _ | refine blk_drew ?_ | refine blk_alloc ?_ _)); exact BK229.out⟩, ⟨by repeat (first | (with_reducible first | exact HB.out | apply below_alloc | apply pw_below_drewN | apply below_drew1 | refine below_set ?_ GE229.out) | exact HB.out)⟩⟩
            ·rw [if_neg c42] at H
             have c42b0 : (x11_3 == 0) = false := beq_eq_false_iff_ne.mpr c42
             have c42b1 : (x11_3 != 0) = true := bne_iff_ne.mpr c42
             obtain rfl := Option.some.inj H
             have hcz44_0 : wr.cell? ⟨gb229, 0, none⟩ = some (.int .i64 t224) := (blk_cell BK229.out 0).trans rfl
             have hcz44_1 : wr.cell? ⟨gb229, 1, none⟩ = some (.slice Ao11 t225.length co11) := (blk_cell BK229.out 1).trans rfl
             have hcz44_2 : wr.cell? ⟨gb229, 2, none⟩ = some (.int .i64 t228) := (blk_cell BK229.out 2).trans rfl
             have hfz44_0 := blk_frozen BK229.out 0
             have hfz44_1 := blk_frozen BK229.out 1
             have hfz44_2 := blk_frozen BK229.out 2
             go_wp2
             go_ret
             exact ⟨by first | rfl | (simp [errW_none, errW_some] <;> rfl) | (simp [*, errW_none, errW_some] <;> rfl), by repeat (first | (with_reducible first | exact HB.out | apply below_alloc | apply pw_below_drewN | apply below_drew1 | refine below_set ?_ GE229.out) | exact HB.out)⟩
     ·rw [if_neg c14] at H
      have c14b0 : decide (x8_1 < 12) = false := decide_eq_false c14
      clear c14
      by_cases c45 : 0 ≤ t224
      ·rw [if_pos c45] at H
       have c45b0 := eq_true c45
       have c45b1 : decide (0 ≤ t224) = true := decide_eq_true c45
       clear c45
       by_cases c46 : (t224 : Int).toNat ≤ 35184372088832
       ·rw [if_pos c46] at H
        have c46b0 := eq_true c46
        have c46b1 : decide ((t224 : Int).toNat ≤ 35184372088832) = true := decide_eq_true c46
        clear c46
        obtain ⟨y244, hy244⟩ : ∃ y_ : List Int, y_ = (List.replicate (t224 : Int).toNat 0) := ⟨_, rfl⟩
        replace H : (airchecklaw24_BookSums.l2 k1 t223 x7_1 y244 0 t224 t225 t228) = some r := by first | (rw [hy244]; with_reducible exact H) | (have H2_ := (Option.bind_some _ _).symm.trans H; rw [hy244]; with_reducible exact H2_) | (have H2_ := (Option.bind_some _ _).symm.trans H; with_reducible exact H2_) | with_reducible exact H | (rw [hy244]; exact H) | exact H
        have Ny244 := Aside0.mk hy244
        clear hy244
        have H' := Aside0.mk H
        clear H
        have hcz47_0 : wr.cell? ⟨gb229, 0, none⟩ = some (.int .i64 t224) := (blk_cell BK229.out 0).trans rfl
        have hcz47_1 : wr.cell? ⟨gb229, 1, none⟩ = some (.slice Ao11 t225.length co11) := (blk_cell BK229.out 1).trans rfl
        have hcz47_2 : wr.cell? ⟨gb229, 2, none⟩ = some (.int .i64 t228) := (blk_cell BK229.out 2).trans rfl
        have hfz47_0 := blk_frozen BK229.out 0
        have hfz47_1 := blk_frozen BK229.out 1
        have hfz47_2 := blk_frozen BK229.out 2
        go_wp2_with (first | ((with_reducible refine gate_dst (N := 94) rfl ?_); (try (refine gate_guard (by rfl) ?_; dsimp only)); refine Kd.R_make (Kd.int .i64) _ 3 rfl (N := 94) rfl 37 _ _ rfl t224 rfl rfl Try.underlying37 (.int .i64 0) 8 info3 rfl (by decide) (by omega) 0 (ok := fun _ => True) (okp := fun _ => True) rfl (fun _ hk => hk) trivial (of_decide_eq_true (by first | (with_reducible assumption) | assumption)) (Nat.le_trans (Nat.mul_le_mul_right _ (of_decide_eq_true (by first | (with_reducible assumption) | assumption) : t224.toNat ≤ 35184372088832)) (by omega)) (Below.refl _ _) (Nat.le_refl _) ?_; intro v245 w48 ho49 hb hg_ hnew_; clear hg_ hnew_; (first | rw [← Ny244.out] at ho49 | (simp only [Int.reduceToNat] at ho49; rw [← Ny244.out] at ho49)); have n0_ := Aside0.mk (Kd.R_elder' (by (with_reducible repeat (first | apply Kd.R_alloc | apply Kd.R_drewN | apply Kd.R_drew)); exact HO_7.out) (Kd.R_base ho49) hb); have n1_ := Aside0.mk (Kd.R_below (by (with_reducible repeat (first | apply Kd.R_alloc | apply Kd.R_drewN | apply Kd.R_drew)); exact HO_230001.out) hb); have n2_ := Aside0.mk (Kd.R_lower (Kd.R_new' ho49 (Kd.R_lt (by (with_reducible repeat (first | apply Kd.R_alloc | apply Kd.R_drewN | apply Kd.R_drew)); exact HO_7.out))) (below_size (by repeat (first | (with_reducible first | exact HB.out | apply below_alloc | apply pw_below_drewN | apply below_drew1 | refine below_set ?_ GE229.out) | exact HB.out)))); have n3_ := Aside0.mk (blk_below (g := gb229) (o := .cells #[.int .i64 t224, .slice Ao11 t225.length co11, .int .i64 t228] 24 (0, 0)) (by (with_reducible repeat (first | refine blk_drewN ?_ _ | refine blk_drew ?_ | refine blk_alloc ?_ _)); exact BK229.out) hb); have n4_ := Aside0.mk (below_step (by repeat (first | (with_reducible first | exact HB.out | apply below_alloc | apply pw_below_drewN | apply below_drew1 | refine below_set ?_ GE229.out) | exact HB.out)) hb); clear HO_7; clear HO_230001; clear BK229; clear HB; have HO_7 := n0_; have HO_230001 := n1_; have HO246 := n2_; have BK229 := n3_; have HB := n4_; clear n0_ n1_ n2_ n3_ n4_; clear hb ho49))
        go_loopg [16] k1 (fun kq v16 w' => ∃ (x15_2 : List Int) (x16_2 : Int), v16 = .int .i64 x16_2 ∧ Aside0 (airchecklaw24_BookSums.l2 kq t223 x7_1 x15_2 x16_2 t224 t225 t228 = some r) ∧ Aside0 (kq ≤ k1) ∧ Aside0 (Kd.R (Kd.int .i64) 3 w' w.heap.size (fun k_ => some k_ ≠ (v245 : Value).ownBlock) v231 x7_1) ∧ Aside0 (Kd.R (Kd.int .i64) 3 w' w.heap.size (fun k_ => some k_ ≠ (v231 : Value).ownBlock) v245 x15_2) ∧ Aside0 (Kd.R k27 27 w' w.heap.size (fun _ => True) (.slice Ao11 t225.length co11) t225) ∧ Aside0 (w'.heap[gb229]? = some (.cells #[.int .i64 t224, (.slice Ao11 t225.length co11), .int .i64 t228] 24 (0, 0))) ∧ Aside0 (Below w.heap.size w w'))
        case atStart => exact ⟨(y244), (0), (by first | rfl | (simp; done) | (simp [*]; done)), H', ⟨Nat.le_refl _⟩, ⟨by (with_reducible repeat (first | apply Kd.R_alloc | apply Kd.R_drewN | apply Kd.R_drew)); exact Kd.R_mono HO_7.out (fun _ hk => hk.2)⟩, ⟨by (with_reducible repeat (first | apply Kd.R_alloc | apply Kd.R_drewN | apply Kd.R_drew)); exact Kd.R_mono HO246.out (fun _ hk => hk.2)⟩, ⟨by (with_reducible repeat (first | apply Kd.R_alloc | apply Kd.R_drewN | apply Kd.R_drew)); exact HO_230001.out⟩, ⟨by (with_reducible repeat (first | refine blk_drewN ?_ _ | refine blk_drew ?_ | refine blk_alloc ?_ _)); exact BK229.out⟩, ⟨by repeat (first | (with_reducible first | exact HB.out | apply below_alloc | apply pw_below_drewN | apply below_drew1 | refine below_set ?_ GE229.out) | exact HB.out)⟩⟩
        case round =>
         clear H'
         try clear c1
         try clear c2
         try clear p2
         try clear q2
         try clear hx2
         try clear p3
         try clear q3
         try clear hx3
         try clear hf3
         try clear c4
         try clear c5
         try clear c5b0
         try clear c5b1
         try clear c6
         try clear c6b0
         try clear c6b1
         try clear p6
         try clear c7
         try clear c8
         try clear c14
         try clear c14b0
         try clear c19
         try clear c19b0
         try clear c19b1
         try clear c21
         try clear c22
         try clear c23
         try clear c23b0
         try clear p23
         try clear q23
         try clear hx23
         try clear p24
         try clear q24
         try clear hx24
         try clear c25
         try clear c25b0
         try clear c25b1
         try clear c26
         try clear c26b0
         try clear c27
         try clear c27b0
         try clear c28
         try clear c28b0
         try clear c28b1
         try clear c29
         try clear c29b0
         try clear p30
         try clear q30
         try clear hx30
         try clear hf30
         try clear c42
         try clear c42b0
         try clear c42b1
         try clear c45
         try clear c45b0
         try clear c45b1
         try clear c46
         try clear c46b0
         try clear c46b1
         try clear hcz10_0
         try clear hcz10_1
         try clear hcz10_2
         try clear hcz17_0
         try clear hcz17_1
         try clear hcz17_2
         try clear hcz21_0
         try clear hcz21_1
         try clear hcz21_2
         try clear hcz31_0
         try clear hcz31_1
         try clear hcz31_2
         try clear hcz37_0
         try clear hcz37_1
         try clear hcz37_2
         try clear hcz40_0
         try clear hcz40_1
         try clear hcz40_2
         try clear hcz43_0
         try clear hcz43_1
         try clear hcz43_2
         try clear hcz44_0
         try clear hcz44_1
         try clear hcz44_2
         try clear hcz47_0
         try clear hcz47_1
         try clear hcz47_2
         try clear hfz10_0
         try clear hfz10_1
         try clear hfz10_2
         try clear hfz17_0
         try clear hfz17_1
         try clear hfz17_2
         try clear hfz21_0
         try clear hfz21_1
         try clear hfz21_2
         try clear hfz31_0
         try clear hfz31_1
         try clear hfz31_2
         try clear hfz37_0
         try clear hfz37_1
         try clear hfz37_2
         try clear hfz40_0
         try clear hfz40_1
         try clear hfz40_2
         try clear hfz43_0
         try clear hfz43_1
         try clear hfz43_2
         try clear hfz44_0
         try clear hfz44_1
         try clear hfz44_2
         try clear hfz47_0
         try clear hfz47_1
         try clear hfz47_2
         try clear hx239_0
         try clear hx240_0
         try clear hx241_0
         try clear hx242_0
         try clear hx30_0
         try clear p2
         try clear p239
         try clear p240
         try clear p241
         try clear p242
         try clear p30
         try clear q239
         try clear q240
         try clear q241
         try clear q242
         try clear q30
         obtain ⟨x15_2, x16_2, rfl, HA, HK2, HO_7, HO_15, HO_230001, BK229, HB⟩ := hrel
         cases gk with
         | zero => exact absurd HA.out (by simp [airchecklaw24_BookSums.l2])
         | succ k2 =>
          have H := HA.out
          clear HA
          simp only [airchecklaw24_BookSums.l2] at H
          by_cases c50 : x16_2 < 6
          ·rw [if_pos c50] at H
           have c50b0 : decide (x16_2 < 6) = true := decide_eq_true c50
           clear c50
           replace H := Option.bind_eq_some_iff.mp H
           obtain ⟨⟨t247, t250⟩, A510, H⟩ := H
           replace H : (if t250 = 0 then (airchecklaw24_BookSums.j4 k2 t223 x7_1 x15_2 x16_2 t247 ((t247.length : Int) != t224) t224 t225 t228) else (airchecklaw24_BookSums.j4 k2 t223 x7_1 x15_2 x16_2 t247 true t224 t225 t228)) = some r := H
           have A51 := Aside0.mk A510
           clear A510
           have HC52 := Aside0.mk H
           clear H
           have hcz53_0 : wr.cell? ⟨gb229, 0, none⟩ = some (.int .i64 t224) := (blk_cell BK229.out 0).trans rfl
           have hcz53_1 : wr.cell? ⟨gb229, 1, none⟩ = some (.slice Ao11 t225.length co11) := (blk_cell BK229.out 1).trans rfl
           have hcz53_2 : wr.cell? ⟨gb229, 2, none⟩ = some (.int .i64 t228) := (blk_cell BK229.out 2).trans rfl
           have hfz53_0 := blk_frozen BK229.out 0
           have hfz53_1 := blk_frozen BK229.out 1
           have hfz53_2 := blk_frozen BK229.out 2
           go_upto_region 26 with (first | ((with_reducible refine gate_callee (f := 24) rfl ?_); refine goesL_ (some 102) rfl rfl Try.func24 (by kernel_rfl) rfl #[.agg #[.int .i64 t224, .slice Ao11 t225.length co11, .int .i64 t228], .int .i64 x16_2] rfl (by (try simp only [List.map_toArray, List.map_cons, List.map_nil]); first | done | rfl | (simp only [List.length_drop, List.length_take]; rfl)) ?_; (with_reducible refine (book_Owed.calls t224 _ _ t225 t228 x16_2 t247 t250 _ ?side1 ?side2 A51.out).mono ?_); (case side1 => repeat (first | exact (Kd.R_reads' HO_230001.out).2.2 | (with_reducible refine Kd.C_alloc ?_ _) | (with_reducible refine Kd.C_drewN ?_ _) | (with_reducible refine Kd.C_drew ?_))); (case side2 => exact (Kd.R_reads' HO_230001.out).2.1); rintro e w54 ⟨v248, rfl, ho0, hb⟩; refine ⟨_, rfl, ?_⟩; have n0_ := Aside0.mk (Kd.R_elder' (by (with_reducible repeat (first | apply Kd.R_alloc | apply Kd.R_drewN | apply Kd.R_drew)); exact HO_7.out) (Kd.R_base ho0) hb); have n1_ := Aside0.mk (Kd.R_elder' (by (with_reducible repeat (first | apply Kd.R_alloc | apply Kd.R_drewN | apply Kd.R_drew)); exact HO_15.out) (Kd.R_base ho0) hb); have n2_ := Aside0.mk (Kd.R_below (by (with_reducible repeat (first | apply Kd.R_alloc | apply Kd.R_drewN | apply Kd.R_drew)); exact HO_230001.out) hb); have n3_ := Aside0.mk (Kd.R_lower (Kd.R_new' (Kd.R_new' ho0 (Kd.R_lt (by (with_reducible repeat (first | apply Kd.R_alloc | apply Kd.R_drewN | apply Kd.R_drew)); exact HO_7.out))) (Kd.R_lt (by (with_reducible repeat (first | apply Kd.R_alloc | apply Kd.R_drewN | apply Kd.R_drew)); exact HO_15.out))) (below_size (by repeat (first | (with_reducible first | exact HB.out | apply below_alloc | apply pw_below_drewN | apply below_drew1 | refine below_set ?_ GE229.out) | exact HB.out)))); have n4_ := Aside0.mk (blk_below (g := gb229) (o := .cells #[.int .i64 t224, .slice Ao11 t225.length co11, .int .i64 t228] 24 (0, 0)) (by (with_reducible repeat (first | refine blk_drewN ?_ _ | refine blk_drew ?_ | refine blk_alloc ?_ _)); exact BK229.out) hb); have n5_ := Aside0.mk (below_step (by repeat (first | (with_reducible first | exact HB.out | apply below_alloc | apply pw_below_drewN | apply below_drew1 | refine below_set ?_ GE229.out) | exact HB.out)) hb); clear HO_7; clear HO_15; clear HO_230001; clear BK229; clear HB; have HO_7 := n0_; have HO_15 := n1_; have HO_230001 := n2_; have HO249 := n3_; have BK229 := n4_; have HB := n5_; clear n0_ n1_ n2_ n3_ n4_ n5_; (try clear hb); (try clear hb2); (try clear hk); (try clear hi); (try clear ho0)))
           (try simp only [Act.put, List.setIfInBounds_toArray, List.set_cons_zero, List.set_cons_succ])
           go_cut [113] (fun v113 wc => ∃ (kq : Nat) (x113_51 : Bool), v113 = .bool x113_51 ∧ Aside0 (airchecklaw24_BookSums.j4 kq t223 x7_1 x15_2 x16_2 t247 x113_51 t224 t225 t228 = some r) ∧ Aside0 (kq ≤ k2) ∧ Aside0 (Kd.R (Kd.int .i64) 3 wc w.heap.size (fun k_ => some k_ ≠ (v245 : Value).ownBlock ∧ some k_ ≠ (v248 : Value).ownBlock) v231 x7_1) ∧ Aside0 (Kd.R (Kd.int .i64) 3 wc w.heap.size (fun k_ => some k_ ≠ (v231 : Value).ownBlock ∧ some k_ ≠ (v248 : Value).ownBlock) v245 x15_2) ∧ Aside0 (Kd.R (Kd.int .i64) 3 wc w.heap.size (fun k_ => some k_ ≠ (v231 : Value).ownBlock ∧ some k_ ≠ (v245 : Value).ownBlock) v248 t247) ∧ Aside0 (Kd.R k27 27 wc w.heap.size (fun _ => True) (.slice Ao11 t225.length co11) t225) ∧ Aside0 (wc.heap[gb229]? = some (.cells #[.int .i64 t224, (.slice Ao11 t225.length co11), .int .i64 t228] 24 (0, 0))) ∧ Aside0 (Below w.heap.size w wc))
           case first =>
            have H := HC52.out
            clear HC52
            by_cases c55 : t250 = 0
            ·rw [if_pos c55] at H
             have c55b0 : (t250 == 0) = true := beq_iff_eq.mpr c55
             have c55b1 : (t250 != 0) = false := bne_eq_false_iff_eq.mpr c55
             clear c55
             (first | rw [c55b0] | (simp only [i64_w, i32_w]; rw [c55b0]) | skip)
             have H' := Aside0.mk H
             clear H
             obtain ⟨Ao56, co56, eo56⟩ := Kd.R_slice HO249.out
             subst eo56
             have hcz57_0 : w54.cell? ⟨gb229, 0, none⟩ = some (.int .i64 t224) := (blk_cell BK229.out 0).trans rfl
             have hcz57_1 : w54.cell? ⟨gb229, 1, none⟩ = some (.slice Ao11 t225.length co11) := (blk_cell BK229.out 1).trans rfl
             have hcz57_2 : w54.cell? ⟨gb229, 2, none⟩ = some (.int .i64 t228) := (blk_cell BK229.out 2).trans rfl
             have hfz57_0 := blk_frozen BK229.out 0
             have hfz57_1 := blk_frozen BK229.out 1
             have hfz57_2 := blk_frozen BK229.out 2
             go_wp2
             go_meet
             case rel => exact ⟨_, (((t247.length : Int) != t224)), (by first | rfl | (simp; done) | (simp [*]; done)), H', ⟨by have := HK1.out; have := HK2.out; first | omega | exact Nat.le_refl _⟩, ⟨by (with_reducible repeat (first | apply Kd.R_alloc | apply Kd.R_drewN | apply Kd.R_drew)); exact HO_7.out⟩, ⟨by (with_reducible repeat (first | apply Kd.R_alloc | apply Kd.R_drewN | apply Kd.R_drew)); exact HO_15.out⟩, ⟨by (with_reducible repeat (first | apply Kd.R_alloc | apply Kd.R_drewN | apply Kd.R_drew)); exact Kd.R_mono HO249.out (fun _ hk => ⟨hk.1.2, hk.2⟩)⟩, ⟨by (with_reducible repeat (first | apply Kd.R_alloc | apply Kd.R_drewN | apply Kd.R_drew)); exact HO_230001.out⟩, ⟨by (with_reducible repeat (first | refine blk_drewN ?_ _ | refine blk_drew ?_ | refine blk_alloc ?_ _)); exact BK229.out⟩, ⟨by repeat (first | (with_reducible first | exact HB.out | apply below_alloc | apply pw_below_drewN | apply below_drew1 | refine below_set ?_ GE229.out) | exact HB.out)⟩⟩
            ·rw [if_neg c55] at H
             have c55b0 : (t250 == 0) = false := beq_eq_false_iff_ne.mpr c55
             have c55b1 : (t250 != 0) = true := bne_iff_ne.mpr c55
             (first | rw [c55b0] | (simp only [i64_w, i32_w]; rw [c55b0]) | skip)
             have H' := Aside0.mk H
             clear H
             go_wp2
             go_meet
             case rel => exact ⟨_, (true), (by first | rfl | (simp; done) | (simp [*]; done)), H', ⟨by have := HK1.out; have := HK2.out; first | omega | exact Nat.le_refl _⟩, ⟨by (with_reducible repeat (first | apply Kd.R_alloc | apply Kd.R_drewN | apply Kd.R_drew)); exact HO_7.out⟩, ⟨by (with_reducible repeat (first | apply Kd.R_alloc | apply Kd.R_drewN | apply Kd.R_drew)); exact HO_15.out⟩, ⟨by (with_reducible repeat (first | apply Kd.R_alloc | apply Kd.R_drewN | apply Kd.R_drew)); exact Kd.R_mono HO249.out (fun _ hk => ⟨hk.1.2, hk.2⟩)⟩, ⟨by (with_reducible repeat (first | apply Kd.R_alloc | apply Kd.R_drewN | apply Kd.R_drew)); exact HO_230001.out⟩, ⟨by (with_reducible repeat (first | refine blk_drewN ?_ _ | refine blk_drew ?_ | refine blk_alloc ?_ _)); exact BK229.out⟩, ⟨by repeat (first | (with_reducible first | exact HB.out | apply below_alloc | apply pw_below_drewN | apply below_drew1 | refine below_set ?_ GE229.out) | exact HB.out)⟩⟩
           case rest =>
            clear HC52
            try clear c1
            try clear c2
            try clear p2
            try clear q2
            try clear hx2
            try clear p3
            try clear q3
            try clear hx3
            try clear hf3
            try clear c4
            try clear c5
            try clear c5b0
            try clear c5b1
            try clear c6
            try clear c6b0
            try clear c6b1
            try clear p6
            try clear c7
            try clear c8
            try clear c14
            try clear c14b0
            try clear c19
            try clear c19b0
            try clear c19b1
            try clear c21
            try clear c22
            try clear c23
            try clear c23b0
            try clear p23
            try clear q23
            try clear hx23
            try clear c24
            try clear p24
            try clear q24
            try clear hx24
            try clear c25
            try clear c25b0
            try clear c25b1
            try clear c26
            try clear c26b0
            try clear c27
            try clear c27b0
            try clear c28
            try clear c28b0
            try clear c28b1
            try clear c29
            try clear c29b0
            try clear p30
            try clear q30
            try clear hx30
            try clear hf30
            try clear c42
            try clear c42b0
            try clear c42b1
            try clear c45
            try clear c45b0
            try clear c45b1
            try clear c46
            try clear c46b0
            try clear c46b1
            try clear c50
            try clear c50b0
            try clear c55
            try clear c55b0
            try clear c55b1
            try clear hcz10_0
            try clear hcz10_1
            try clear hcz10_2
            try clear hcz17_0
            try clear hcz17_1
            try clear hcz17_2
            try clear hcz21_0
            try clear hcz21_1
            try clear hcz21_2
            try clear hcz31_0
            try clear hcz31_1
            try clear hcz31_2
            try clear hcz37_0
            try clear hcz37_1
            try clear hcz37_2
            try clear hcz40_0
            try clear hcz40_1
            try clear hcz40_2
            try clear hcz43_0
            try clear hcz43_1
            try clear hcz43_2
            try clear hcz44_0
            try clear hcz44_1
            try clear hcz44_2
            try clear hcz47_0
            try clear hcz47_1
            try clear hcz47_2
            try clear hcz53_0
            try clear hcz53_1
            try clear hcz53_2
            try clear hcz57_0
            try clear hcz57_1
            try clear hcz57_2
            try clear hfz10_0
            try clear hfz10_1
            try clear hfz10_2
            try clear hfz17_0
            try clear hfz17_1
            try clear hfz17_2
            try clear hfz21_0
            try clear hfz21_1
            try clear hfz21_2
            try clear hfz31_0
            try clear hfz31_1
            try clear hfz31_2
            try clear hfz37_0
            try clear hfz37_1
            try clear hfz37_2
            try clear hfz40_0
            try clear hfz40_1
            try clear hfz40_2
            try clear hfz43_0
            try clear hfz43_1
            try clear hfz43_2
            try clear hfz44_0
            try clear hfz44_1
            try clear hfz44_2
            try clear hfz47_0
            try clear hfz47_1
            try clear hfz47_2
            try clear hfz53_0
            try clear hfz53_1
            try clear hfz53_2
            try clear hfz57_0
            try clear hfz57_1
            try clear hfz57_2
            try clear hx239_0
            try clear hx240_0
            try clear hx241_0
            try clear hx242_0
            try clear hx30_0
            try clear p2
            try clear p23
            try clear p239
            try clear p24
            try clear p240
            try clear p241
            try clear p242
            try clear p3
            try clear p30
            try clear p6
            try clear q2
            try clear q23
            try clear q239
            try clear q24
            try clear q240
            try clear q241
            try clear q242
            try clear q3
            try clear q30
            obtain ⟨kq, x113_51, rfl, HA, HJ51, HO_7, HO_15, HO_17, HO_230001, BK229, HB⟩ := hcut
            cases kq with
            | zero => exact absurd HA.out (by simp [airchecklaw24_BookSums.j4])
            | succ kj51 =>
             have H := HA.out
             clear HA
             simp only [airchecklaw24_BookSums.j4] at H
             by_cases c58 : x113_51 = true
             ·subst c58
              have H1 : (some false) = some r := by rw [if_pos rfl] at H; exact H
              clear H
              have H := H1
              clear H1
              obtain rfl := Option.some.inj H
              go_wp2
              go_ret
              exact ⟨by first | rfl | (simp [errW_none, errW_some] <;> rfl) | (simp [*, errW_none, errW_some] <;> rfl), by repeat (first | (with_reducible first | exact HB.out | apply below_alloc | apply pw_below_drewN | apply below_drew1 | refine below_set ?_ GE229.out) | exact HB.out)⟩
             ·replace c58 := Bool.eq_false_iff.mpr c58
              subst c58
              have H1 : (airchecklaw24_BookSums.l3 kj51 t223 x7_1 x15_2 x16_2 t247 0 0 t224 t225 t228) = some r := by rw [if_neg (show ¬ (false = true) by decide)] at H; exact H
              clear H
              have H := H1
              clear H1
              have H' := Aside0.mk H
              clear H
              go_wp2
              go_loopg [19, 20] kj51 (fun kq v19 v20 w' => ∃ (x15_4 : List Int) (x19_4 : Int) (x20_4 : Int), v19 = .int .i64 x19_4 ∧ v20 = .int .i64 x20_4 ∧ Aside0 (airchecklaw24_BookSums.l3 kq t223 x7_1 x15_4 x16_2 t247 x19_4 x20_4 t224 t225 t228 = some r) ∧ Aside0 (kq ≤ kj51) ∧ Aside0 (Kd.R (Kd.int .i64) 3 w' w.heap.size (fun k_ => some k_ ≠ (v245 : Value).ownBlock ∧ some k_ ≠ (v248 : Value).ownBlock) v231 x7_1) ∧ Aside0 (Kd.R (Kd.int .i64) 3 w' w.heap.size (fun k_ => some k_ ≠ (v231 : Value).ownBlock ∧ some k_ ≠ (v248 : Value).ownBlock) v245 x15_4) ∧ Aside0 (Kd.R (Kd.int .i64) 3 w' w.heap.size (fun k_ => some k_ ≠ (v231 : Value).ownBlock ∧ some k_ ≠ (v245 : Value).ownBlock) v248 t247) ∧ Aside0 (Kd.R k27 27 w' w.heap.size (fun _ => True) (.slice Ao11 t225.length co11) t225) ∧ Aside0 (w'.heap[gb229]? = some (.cells #[.int .i64 t224, (.slice Ao11 t225.length co11), .int .i64 t228] 24 (0, 0))) ∧ Aside0 (Below w.heap.size w w'))
              case atStart => exact ⟨(x15_2), (0), (0), (by first | rfl | (simp; done) | (simp [*]; done)), (by first | rfl | (simp; done) | (simp [*]; done)), H', ⟨Nat.le_refl _⟩, ⟨by (with_reducible repeat (first | apply Kd.R_alloc | apply Kd.R_drewN | apply Kd.R_drew)); exact HO_7.out⟩, ⟨by (with_reducible repeat (first | apply Kd.R_alloc | apply Kd.R_drewN | apply Kd.R_drew)); exact HO_15.out⟩, ⟨by (with_reducible repeat (first | apply Kd.R_alloc | apply Kd.R_drewN | apply Kd.R_drew)); exact HO_17.out⟩, ⟨by (with_reducible repeat (first | apply Kd.R_alloc | apply Kd.R_drewN | apply Kd.R_drew)); exact HO_230001.out⟩, ⟨by (with_reducible repeat (first | refine blk_drewN ?_ _ | refine blk_drew ?_ | refine blk_alloc ?_ _)); exact BK229.out⟩, ⟨by repeat (first | (with_reducible first | exact HB.out | apply below_alloc | apply pw_below_drewN | apply below_drew1 | refine below_set ?_ GE229.out) | exact HB.out)⟩⟩
              case round =>
               clear H'
               try clear c1
               try clear c2
               try clear p2
               try clear q2
               try clear hx2
               try clear p3
               try clear q3
               try clear hx3
               try clear hf3
               try clear c4
               try clear c5
               try clear c5b0
               try clear c5b1
               try clear c6
               try clear c6b0
               try clear c6b1
               try clear p6
               try clear c7
               try clear c8
               try clear c14
               try clear c14b0
               try clear c19
               try clear c19b0
               try clear c19b1
               try clear c21
               try clear c22
               try clear c23
               try clear c23b0
               try clear p23
               try clear q23
               try clear hx23
               try clear c24
               try clear p24
               try clear q24
               try clear hx24
               try clear c25
               try clear c25b0
               try clear c25b1
               try clear c26
               try clear c26b0
               try clear c27
               try clear c27b0
               try clear c28
               try clear c28b0
               try clear c28b1
               try clear c29
               try clear c29b0
               try clear p30
               try clear q30
               try clear hx30
               try clear hf30
               try clear c42
               try clear c42b0
               try clear c42b1
               try clear c45
               try clear c45b0
               try clear c45b1
               try clear c46
               try clear c46b0
               try clear c46b1
               try clear c50
               try clear c50b0
               try clear c55
               try clear c55b0
               try clear c55b1
               try clear c58
               try clear hcz10_0
               try clear hcz10_1
               try clear hcz10_2
               try clear hcz17_0
               try clear hcz17_1
               try clear hcz17_2
               try clear hcz21_0
               try clear hcz21_1
               try clear hcz21_2
               try clear hcz31_0
               try clear hcz31_1
               try clear hcz31_2
               try clear hcz37_0
               try clear hcz37_1
               try clear hcz37_2
               try clear hcz40_0
               try clear hcz40_1
               try clear hcz40_2
               try clear hcz43_0
               try clear hcz43_1
               try clear hcz43_2
               try clear hcz44_0
               try clear hcz44_1
               try clear hcz44_2
               try clear hcz47_0
               try clear hcz47_1
               try clear hcz47_2
               try clear hcz53_0
               try clear hcz53_1
               try clear hcz53_2
               try clear hcz57_0
               try clear hcz57_1
               try clear hcz57_2
               try clear hfz10_0
               try clear hfz10_1
               try clear hfz10_2
               try clear hfz17_0
               try clear hfz17_1
               try clear hfz17_2
               try clear hfz21_0
               try clear hfz21_1
               try clear hfz21_2
               try clear hfz31_0
               try clear hfz31_1
               try clear hfz31_2
               try clear hfz37_0
               try clear hfz37_1
               try clear hfz37_2
               try clear hfz40_0
               try clear hfz40_1
               try clear hfz40_2
               try clear hfz43_0
               try clear hfz43_1
               try clear hfz43_2
               try clear hfz44_0
               try clear hfz44_1
               try clear hfz44_2
               try clear hfz47_0
               try clear hfz47_1
               try clear hfz47_2
               try clear hfz53_0
               try clear hfz53_1
               try clear hfz53_2
               try clear hfz57_0
               try clear hfz57_1
               try clear hfz57_2
               try clear hx239_0
               try clear hx240_0
               try clear hx241_0
               try clear hx242_0
               try clear hx30_0
               try clear p2
               try clear p23
               try clear p239
               try clear p24
               try clear p240
               try clear p241
               try clear p242
               try clear p3
               try clear p30
               try clear p6
               try clear q2
               try clear q23
               try clear q239
               try clear q24
               try clear q240
               try clear q241
               try clear q242
               try clear q3
               try clear q30
               obtain ⟨x15_4, x19_4, x20_4, rfl, rfl, HA, HK4, HO_7, HO_15, HO_17, HO_230001, BK229, HB⟩ := hrel
               cases gk with
               | zero => exact absurd HA.out (by simp [airchecklaw24_BookSums.l3])
               | succ k4 =>
                have H := HA.out
                clear HA
                simp only [airchecklaw24_BookSums.l3] at H
                by_cases c59 : x20_4 < t224
                ·rw [if_pos c59] at H
                 have c59b0 : decide (x20_4 < t224) = true := decide_eq_true c59
                 clear c59
                 by_cases c60 : 0 ≤ x20_4
                 ·rw [if_pos c60] at H
                  have c60b0 : decide (0 ≤ x20_4) = true := decide_eq_true c60
                  clear c60
                  by_cases c61 : x20_4 < (t247.length : Int)
                  ·rw [if_pos c61] at H
                   have c61b0 : decide (x20_4 < (t247.length : Int)) = true := decide_eq_true c61
                   clear c61
                   by_cases c62 : x20_4 < (x15_4.length : Int)
                   ·rw [if_pos c62] at H
                    have c62b0 : decide (x20_4 < (x15_4.length : Int)) = true := decide_eq_true c62
                    clear c62
                    obtain ⟨y254, hy254⟩ : ∃ y_ : List Int, y_ = (x15_4.set (x20_4 : Int).toNat (wrap64 ((rd x15_4 x20_4) + (rd t247 x20_4)))) := ⟨_, rfl⟩
                    replace H : (airchecklaw24_BookSums.l3 k4 t223 x7_1 y254 x16_2 t247 (wrap64 (x19_4 + (rd t247 x20_4))) (wrap64 (x20_4 + 1)) t224 t225 t228) = some r := by first | (rw [hy254]; with_reducible exact H) | (have H2_ := (Option.bind_some _ _).symm.trans H; rw [hy254]; with_reducible exact H2_) | (have H2_ := (Option.bind_some _ _).symm.trans H; with_reducible exact H2_) | with_reducible exact H | (rw [hy254]; exact H) | exact H
                    have Ny254 := Aside0.mk hy254
                    clear hy254
                    have H' := Aside0.mk H
                    clear H
                    have hcz64_0 : wr.cell? ⟨gb229, 0, none⟩ = some (.int .i64 t224) := (blk_cell BK229.out 0).trans rfl
                    have hcz64_1 : wr.cell? ⟨gb229, 1, none⟩ = some (.slice Ao11 t225.length co11) := (blk_cell BK229.out 1).trans rfl
                    have hcz64_2 : wr.cell? ⟨gb229, 2, none⟩ = some (.int .i64 t228) := (blk_cell BK229.out 2).trans rfl
                    have hfz64_0 := blk_frozen BK229.out 0
                    have hfz64_1 := blk_frozen BK229.out 1
                    have hfz64_2 := blk_frozen BK229.out 2
                    obtain ⟨Ao65, co65, eo65⟩ := Kd.R_slice HO_17.out
                    subst eo65
                    have p251 : 0 ≤ (x20_4 : Int) := of_decide_eq_true (by first | (with_reducible assumption) | assumption)
                    have q251 : x20_4 < (t247.length : Int) := of_decide_eq_true (by first | (with_reducible assumption) | assumption)
                    obtain ⟨ad251, e251, hx251_0⟩ := Kd.at_int (Kd.R_reads' HO_17.out).2.2 x20_4 p251 q251
                    cases e251
                    replace p251 := eq_true p251
                    replace q251 := eq_true q251
                    try go_wp2
                    have n0_ := Aside0.mk (Kd.R_drew HO_7.out)
                    have n1_ := Aside0.mk (Kd.R_drew HO_15.out)
                    have n2_ := Aside0.mk (Kd.R_drew HO_17.out)
                    have n3_ := Aside0.mk (Kd.R_drew HO_230001.out)
                    have n4_ := Aside0.mk (blk_drew BK229.out)
                    have n5_ := Aside0.mk (below_drew1 HB.out)
                    clear HO_7
                    clear HO_15
                    clear HO_17
                    clear HO_230001
                    clear BK229
                    clear HB
                    have HO_7 := n0_
                    have HO_15 := n1_
                    have HO_17 := n2_
                    have HO_230001 := n3_
                    have BK229 := n4_
                    have HB := n5_
                    clear n0_ n1_ n2_ n3_ n4_ n5_
                    obtain ⟨Ao67, co67, eo67⟩ := Kd.R_slice HO_15.out
                    (first | subst eo67 | (injection eo67 with f1_ f2_ f3_; have f4_ := f1_.symm; have f5_ := f3_.symm; clear f1_ f2_ f3_; subst f4_; subst f5_))
                    have p252 : 0 ≤ (x20_4 : Int) := of_decide_eq_true (by first | (with_reducible assumption) | assumption)
                    have q252 : x20_4 < (x15_4.length : Int) := of_decide_eq_true (by first | (with_reducible assumption) | assumption)
                    obtain ⟨ad252, e252, hx252_0⟩ := Kd.at_int (Kd.R_reads' HO_15.out).2.2 x20_4 p252 q252
                    cases e252
                    replace p252 := eq_true p252
                    replace q252 := eq_true q252
                    have p253 : 0 ≤ (x20_4 : Int) := of_decide_eq_true (by first | (with_reducible assumption) | assumption)
                    have q253 : x20_4 < (t247.length : Int) := of_decide_eq_true (by first | (with_reducible assumption) | assumption)
                    obtain ⟨ad253, e253, hx253_0⟩ := Kd.at_int (Kd.R_reads' HO_17.out).2.2 x20_4 p253 q253
                    obtain rfl : ad251 = ad253 := (by injection e253)
                    replace p253 := eq_true p253
                    replace q253 := eq_true q253
                    have p63 : 0 ≤ (x20_4 : Int) := of_decide_eq_true (by first | (with_reducible assumption) | assumption)
                    have q63 : (x20_4 : Int) < ((x15_4.length : Int) : Int) := of_decide_eq_true (by first | (with_reducible assumption) | assumption)
                    obtain ⟨go63, co63, eo63, gb63, gl63, cl63, HG63⟩ := Kd.R_form HO_15.out (by omega)
                    (first | cases eo63 | (injection eo63 with ea_ en_ ec_; (first | subst ea_ | (injection ea_ with ea_; subst ea_)); subst ec_; clear en_))
                    have GB63 := Aside0.mk gb63
                    have GG63 := Aside0.mk HG63
                    clear gb63 gl63 HG63
                    (first | simp only [add_plain] at hx252_0 | skip)
                    obtain ⟨hx63_0, hf63_0⟩ := Kd.R_celln 0 HO_15.out (x20_4 : Int) p63 q63
                    replace p63 := eq_true p63
                    replace q63 := eq_true q63
                    have HP68 := Kd.R_putn HO_15.out (x20_4 : Int) (wrap64 ((rd x15_4 x20_4) + (rd t247 x20_4)))
                    rw [← Ny254.out] at HP68
                    have HQ68 := Aside0.mk HP68
                    clear HP68
                    refine start_ (n := 13) (S := fun w' => w'.cell? ⟨go63, (x20_4).toNat, none⟩ = some (.int .i64 (rd x15_4 x20_4)) ∧ w'.cell? (ad251.add (x20_4).toNat) = some (.int .i64 (rd t247 x20_4))) (ds := [12]) #[false, false, false, false, false, false, false, false, false, false, false, false, false] (by kernel_rfl) rfl rfl ⟨hx252_0, hx253_0⟩ (fun hHeld => ?_); refine with_tabW airchecklaw24_BookSums.tab33 airchecklaw24_BookSums.bits33 (fun HT_ HW_ => ?_)
                    generalize wr.drew = w66 at HO_7 HO_15 HO_17 HO_230001 BK229 HB GG63 HQ68 hf63_0 hx252_0 hx253_0 hx63_0 hHeld ⊢
                    refine pure_ (i := 0) (N := some 126) (v := ?_) (a' := ?_) #[true, false, false, false, false, false, false, false, false, false, false, false, false] rfl rfl (any_of HT_.out (by kernel_rfl)) (fun _ _ _ h => h) (Or.inl ⟨by rfl, ?_⟩) ?_ ?_
                    rotate_left
                    ·intro w'
                     go_simp
                     with_reducible rfl
                    rotate_left
                    ·simp only [Act.put, List.setIfInBounds_toArray, List.set_cons_zero, List.set_cons_succ, i64_w, i32_w]
                     rfl
                    refine pure_ (i := 1) (N := some 127) (v := ?_) (a' := ?_) #[true, true, false, false, false, false, false, false, false, false, false, false, false] rfl rfl (any_of HT_.out (by kernel_rfl)) (fun _ _ _ h => h) (Or.inl ⟨by rfl, ?_⟩) ?_ ?_
                    rotate_left
                    ·intro w'
                     go_simp
                     with_reducible rfl
                    rotate_left
                    ·simp only [Act.put, List.setIfInBounds_toArray, List.set_cons_zero, List.set_cons_succ, i64_w, i32_w]
                     rfl
                    refine pure_ (i := 2) (N := some 128) (v := ?_) (a' := ?_) #[true, true, true, false, false, false, false, false, false, false, false, false, false] rfl rfl (any_of HT_.out (by kernel_rfl)) (fun _ _ _ h => h) (Or.inl ⟨by rfl, ?_⟩) ?_ ?_
                    rotate_left
                    ·intro w'
                     go_simp
                     with_reducible rfl
                    rotate_left
                    ·simp only [Act.put, List.setIfInBounds_toArray, List.set_cons_zero, List.set_cons_succ, i64_w, i32_w]
                     rfl
                    refine pure_ (i := 3) (N := some 129) (v := ?_) (a' := ?_) #[true, true, true, true, false, false, false, false, false, false, false, false, false] rfl rfl (any_of HT_.out (by kernel_rfl)) (fun _ _ _ h => h) (Or.inl ⟨by rfl, ?_⟩) ?_ ?_
                    rotate_left
                    ·intro w'
                     go_simp
                     with_reducible rfl
                    rotate_left
                    ·simp only [Act.put, List.setIfInBounds_toArray, List.set_cons_zero, List.set_cons_succ, i64_w, i32_w]
                     rfl
                    refine pure_ (i := 4) (N := some 130) (v := ?_) (a' := ?_) #[true, true, true, true, true, false, false, false, false, false, false, false, false] rfl rfl (any_of HT_.out (by kernel_rfl)) (fun _ _ _ h => h) (Or.inl ⟨by rfl, ?_⟩) ?_ ?_
                    rotate_left
                    ·intro w'
                     go_simp
                     with_reducible rfl
                    rotate_left
                    ·simp only [Act.put, List.setIfInBounds_toArray, List.set_cons_zero, List.set_cons_succ, i64_w, i32_w]
                     rfl
                    refine pure_ (i := 6) (N := some 132) (v := ?_) (a' := ?_) #[true, true, true, true, true, false, true, false, false, false, false, false, false] rfl rfl (any_of HT_.out (by kernel_rfl)) (fun _ _ _ h => h) (Or.inl ⟨by rfl, ?_⟩) ?_ ?_
                    rotate_left
                    ·intro w'
                     go_simp
                     with_reducible rfl
                    rotate_left
                    ·simp only [Act.put, List.setIfInBounds_toArray, List.set_cons_zero, List.set_cons_succ, i64_w, i32_w]
                     rfl
                    refine pure_ (i := 7) (N := some 133) (v := ?_) (a' := ?_) #[true, true, true, true, true, false, true, true, false, false, false, false, false] rfl rfl (any_of HT_.out (by kernel_rfl)) (fun _ _ _ h => h) (Or.inl ⟨by rfl, ?_⟩) ?_ ?_
                    rotate_left
                    ·intro w'
                     go_simp
                     with_reducible rfl
                    rotate_left
                    ·simp only [Act.put, List.setIfInBounds_toArray, List.set_cons_zero, List.set_cons_succ, i64_w, i32_w]
                     rfl
                    refine pure_ (i := 8) (N := some 134) (v := ?_) (a' := ?_) #[true, true, true, true, true, false, true, true, true, false, false, false, false] rfl rfl (any_of HT_.out (by kernel_rfl)) (fun _ _ _ h => h) (Or.inl ⟨by rfl, ?_⟩) ?_ ?_
                    rotate_left
                    ·intro w'
                     go_simp
                     with_reducible rfl
                    rotate_left
                    ·simp only [Act.put, List.setIfInBounds_toArray, List.set_cons_zero, List.set_cons_succ, i64_w, i32_w]
                     rfl
                    refine take_ (i := 5) (N := some 131) (v := ?_) (a' := ?_) #[true, true, true, true, true, true, true, true, true, false, false, false, false] rfl rfl (take_ofW HT_.out HW_.out (by kernel_rfl)) (fun _ _ _ h => h) (Or.inl ⟨by rfl, ?_⟩) hHeld ?_ ?_
                    rotate_left
                    ·rintro w' ⟨s0, s1⟩
                     go_simp
                     with_reducible rfl
                    rotate_left
                    ·simp only [Act.put, List.setIfInBounds_toArray, List.set_cons_zero, List.set_cons_succ, i64_w, i32_w]
                     rfl
                    refine take_ (i := 9) (N := some 135) (v := ?_) (a' := ?_) #[true, true, true, true, true, true, true, true, true, true, false, false, false] rfl rfl (take_ofW HT_.out HW_.out (by kernel_rfl)) (fun _ _ _ h => h) (Or.inl ⟨by rfl, ?_⟩) hHeld ?_ ?_
                    rotate_left
                    ·rintro w' ⟨s0, s1⟩
                     go_simp
                     with_reducible rfl
                    rotate_left
                    ·simp only [Act.put, List.setIfInBounds_toArray, List.set_cons_zero, List.set_cons_succ, i64_w, i32_w]
                     rfl
                    refine pure_ (i := 10) (N := some 136) (v := ?_) (a' := ?_) #[true, true, true, true, true, true, true, true, true, true, true, false, false] rfl rfl (any_of HT_.out (by kernel_rfl)) (fun _ _ _ h => h) (Or.inl ⟨by rfl, ?_⟩) ?_ ?_
                    rotate_left
                    ·intro w'
                     go_simp
                     with_reducible rfl
                    rotate_left
                    ·simp only [Act.put, List.setIfInBounds_toArray, List.set_cons_zero, List.set_cons_succ, i64_w, i32_w]
                     rfl
                    refine pure_ (i := 11) (N := some 137) (v := ?_) (a' := ?_) #[true, true, true, true, true, true, true, true, true, true, true, true, false] rfl rfl (any_of HT_.out (by kernel_rfl)) (fun _ _ _ h => h) (Or.inl ⟨by rfl, ?_⟩) ?_ ?_
                    rotate_left
                    ·intro w'
                     go_simp
                     with_reducible rfl
                    rotate_left
                    ·simp only [Act.put, List.setIfInBounds_toArray, List.set_cons_zero, List.set_cons_succ, i64_w, i32_w]
                     rfl
                    refine last_ (i := 12) (N := none) #[true, true, true, true, true, true, true, true, true, true, true, true, true] rfl rfl (one_of HT_.out (by kernel_rfl)) (by decide) (fun K hK => ?_)
                    refine skip_ (w1 := ?_) (by rfl) rfl ?_ ?_
                    rotate_left
                    ·go_simp
                     rfl
                    refine hK.out _ _ ?_
                    clear hK K
                    refine done_ (done_of HT_.out (by kernel_rfl)) ?_
                    try go_wp2
                    go_roundg k4
                    case measure => have := HK1.out; have := HK2.out; have := HJ51.out; have := HK4.out; omega
                    case rel => exact ⟨(y254), (wrap64 (x19_4 + (rd t247 x20_4))), (wrap64 (x20_4 + 1)), (by first | rfl | (simp; done) | (simp [*]; done)), (by first | rfl | (simp; done) | (simp [*]; done)), H', ⟨by have := HK1.out; have := HK2.out; have := HJ51.out; have := HK4.out; omega⟩, ⟨by (with_reducible repeat (first | apply Kd.R_alloc | apply Kd.R_drewN | apply Kd.R_drew)); exact Kd.R_mono (Kd.R_far (p := ⟨go63, (x20_4 : Int).toNat, none⟩) (Kd.R_mono HO_7.out (fun k_ hk => (⟨hk, fun e_ => hk.1 (by rw [e_]; rfl)⟩ : _ ∧ k_ ≠ go63))) (fun _ hk => hk.2) (.int .i64 (wrap64 ((rd x15_4 x20_4) + (rd t247 x20_4))))) (fun _ hk => ⟨hk.1.1, hk.1.2⟩)⟩, ⟨by (with_reducible repeat (first | apply Kd.R_alloc | apply Kd.R_drewN | apply Kd.R_drew)); exact HQ68.out⟩, ⟨by (with_reducible repeat (first | apply Kd.R_alloc | apply Kd.R_drewN | apply Kd.R_drew)); exact Kd.R_mono (Kd.R_far (p := ⟨go63, (x20_4 : Int).toNat, none⟩) (Kd.R_mono HO_17.out (fun k_ hk => (⟨hk, fun e_ => hk.2 (by rw [e_]; rfl)⟩ : _ ∧ k_ ≠ go63))) (fun _ hk => hk.2) (.int .i64 (wrap64 ((rd x15_4 x20_4) + (rd t247 x20_4))))) (fun _ hk => ⟨hk.1.1, hk.1.2⟩)⟩, ⟨by (with_reducible repeat (first | apply Kd.R_alloc | apply Kd.R_drewN | apply Kd.R_drew)); exact Kd.R_mono (Kd.R_far (p := ⟨go63, (x20_4 : Int).toNat, none⟩) (Kd.R_types HO_230001.out GG63.out (by decide)) (fun _ hk => hk.2) (.int .i64 (wrap64 ((rd x15_4 x20_4) + (rd t247 x20_4))))) (fun _ hk => trivial)⟩, ⟨by (with_reducible repeat (first | refine blk_drewN ?_ _ | refine blk_drew ?_ | refine blk_alloc ?_ _)); refine blk_far ?_ (by have h_ := Kd.R_ne HO_15.out BK229.out (by decide); intro e_; exact h_ (by rw [e_]; rfl)) _; (with_reducible repeat (first | refine blk_drewN ?_ _ | refine blk_drew ?_ | refine blk_alloc ?_ _)); exact BK229.out⟩, ⟨by repeat (first | (with_reducible first | exact HB.out | apply below_alloc | apply pw_below_drewN | apply below_drew1 | refine below_set ?_ GB63.out | refine below_set ?_ GE229.out) | exact HB.out)⟩⟩
                   ·rw [if_neg c62] at H
                    exact absurd H (by simp)
                  ·rw [if_neg c61] at H
                   exact absurd H (by simp)
                 ·rw [if_neg c60] at H
                  exact absurd H (by simp)
                ·rw [if_neg c59] at H
                 have c59b0 : decide (x20_4 < t224) = false := decide_eq_false c59
                 clear c59
                 by_cases c69 : x19_4 = 0
                 ·rw [if_pos c69] at H
                  have c69b0 : (x19_4 == 0) = true := beq_iff_eq.mpr c69
                  have c69b1 : (x19_4 != 0) = false := bne_eq_false_iff_eq.mpr c69
                  clear c69
                  have H' := Aside0.mk H
                  clear H
                  have hcz70_0 : wr.cell? ⟨gb229, 0, none⟩ = some (.int .i64 t224) := (blk_cell BK229.out 0).trans rfl
                  have hcz70_1 : wr.cell? ⟨gb229, 1, none⟩ = some (.slice Ao11 t225.length co11) := (blk_cell BK229.out 1).trans rfl
                  have hcz70_2 : wr.cell? ⟨gb229, 2, none⟩ = some (.int .i64 t228) := (blk_cell BK229.out 2).trans rfl
                  have hfz70_0 := blk_frozen BK229.out 0
                  have hfz70_1 := blk_frozen BK229.out 1
                  have hfz70_2 := blk_frozen BK229.out 2
                  go_wp2
                  go_roundg k4
                  case measure => have := HK1.out; have := HK2.out; have := HJ51.out; have := HK4.out; omega
                  case rel => exact ⟨(x15_4), (wrap64 (x16_2 + 1)), (by first | rfl | (simp; done) | (simp [*]; done)), H', ⟨by have := HK1.out; have := HK2.out; have := HJ51.out; have := HK4.out; omega⟩, ⟨by (with_reducible repeat (first | apply Kd.R_alloc | apply Kd.R_drewN | apply Kd.R_drew)); exact Kd.R_mono HO_7.out (fun _ hk => hk.1)⟩, ⟨by (with_reducible repeat (first | apply Kd.R_alloc | apply Kd.R_drewN | apply Kd.R_drew)); exact Kd.R_mono HO_15.out (fun _ hk => hk.1)⟩, ⟨by (with_reducible repeat (first | apply Kd.R_alloc | apply Kd.R_drewN | apply Kd.R_drew)); exact HO_230001.out⟩, ⟨by (with_reducible repeat (first | refine blk_drewN ?_ _ | refine blk_drew ?_ | refine blk_alloc ?_ _)); exact BK229.out⟩, ⟨by repeat (first | (with_reducible first | exact HB.out | apply below_alloc | apply pw_below_drewN | apply below_drew1 | refine below_set ?_ GE229.out) | exact HB.out)⟩⟩
                 ·rw [if_neg c69] at H
                  have c69b0 : (x19_4 == 0) = false := beq_eq_false_iff_ne.mpr c69
                  have c69b1 : (x19_4 != 0) = true := bne_iff_ne.mpr c69
                  obtain rfl := Option.some.inj H
                  have hcz71_0 : wr.cell? ⟨gb229, 0, none⟩ = some (.int .i64 t224) := (blk_cell BK229.out 0).trans rfl
                  have hcz71_1 : wr.cell? ⟨gb229, 1, none⟩ = some (.slice Ao11 t225.length co11) := (blk_cell BK229.out 1).trans rfl
                  have hcz71_2 : wr.cell? ⟨gb229, 2, none⟩ = some (.int .i64 t228) := (blk_cell BK229.out 2).trans rfl
                  have hfz71_0 := blk_frozen BK229.out 0
                  have hfz71_1 := blk_frozen BK229.out 1
                  have hfz71_2 := blk_frozen BK229.out 2
                  go_wp2
                  go_ret
                  exact ⟨by first | rfl | (simp [errW_none, errW_some] <;> rfl) | (simp [*, errW_none, errW_some] <;> rfl), by repeat (first | (with_reducible first | exact HB.out | apply below_alloc | apply pw_below_drewN | apply below_drew1 | refine below_set ?_ GE229.out) | exact HB.out)⟩
          ·rw [if_neg c50] at H
           have c50b0 : decide (x16_2 < 6) = false := decide_eq_false c50
           clear c50
           have H' := Aside0.mk H
           clear H
           go_wp2
           go_loopg [21] k2 (fun kq v21 w' => ∃ (x7_3 : List Int) (x15_3 : List Int) (x21_3 : Int), v21 = .int .i64 x21_3 ∧ Aside0 (airchecklaw24_BookSums.l4 kq t223 x7_3 x15_3 x21_3 t224 t225 t228 = some r) ∧ Aside0 (kq ≤ k2) ∧ Aside0 (Kd.R (Kd.int .i64) 3 w' w.heap.size (fun k_ => some k_ ≠ (v245 : Value).ownBlock) v231 x7_3) ∧ Aside0 (Kd.R (Kd.int .i64) 3 w' w.heap.size (fun k_ => some k_ ≠ (v231 : Value).ownBlock) v245 x15_3) ∧ Aside0 (Kd.R k27 27 w' w.heap.size (fun _ => True) (.slice Ao11 t225.length co11) t225) ∧ Aside0 (w'.heap[gb229]? = some (.cells #[.int .i64 t224, (.slice Ao11 t225.length co11), .int .i64 t228] 24 (0, 0))) ∧ Aside0 (Below w.heap.size w w'))
           case atStart => exact ⟨(x7_1), (x15_2), (0), (by first | rfl | (simp; done) | (simp [*]; done)), H', ⟨Nat.le_refl _⟩, ⟨by (with_reducible repeat (first | apply Kd.R_alloc | apply Kd.R_drewN | apply Kd.R_drew)); exact HO_7.out⟩, ⟨by (with_reducible repeat (first | apply Kd.R_alloc | apply Kd.R_drewN | apply Kd.R_drew)); exact HO_15.out⟩, ⟨by (with_reducible repeat (first | apply Kd.R_alloc | apply Kd.R_drewN | apply Kd.R_drew)); exact HO_230001.out⟩, ⟨by (with_reducible repeat (first | refine blk_drewN ?_ _ | refine blk_drew ?_ | refine blk_alloc ?_ _)); exact BK229.out⟩, ⟨by repeat (first | (with_reducible first | exact HB.out | apply below_alloc | apply pw_below_drewN | apply below_drew1 | refine below_set ?_ GE229.out) | exact HB.out)⟩⟩
           case round =>
            clear H'
            try clear c1
            try clear c2
            try clear p2
            try clear q2
            try clear hx2
            try clear p3
            try clear q3
            try clear hx3
            try clear hf3
            try clear c4
            try clear c5
            try clear c5b0
            try clear c5b1
            try clear c6
            try clear c6b0
            try clear c6b1
            try clear p6
            try clear q6
            try clear hx6
            try clear hf6
            try clear c7
            try clear c8
            try clear c14
            try clear c14b0
            try clear c19
            try clear c19b0
            try clear c19b1
            try clear c21
            try clear c22
            try clear c23
            try clear c23b0
            try clear p23
            try clear q23
            try clear hx23
            try clear c24
            try clear p24
            try clear q24
            try clear hx24
            try clear c25
            try clear c25b0
            try clear c25b1
            try clear p25
            try clear q25
            try clear hx25
            try clear c26
            try clear c26b0
            try clear c27
            try clear c27b0
            try clear c28
            try clear c28b0
            try clear c28b1
            try clear c29
            try clear c29b0
            try clear p30
            try clear q30
            try clear hx30
            try clear hf30
            try clear c42
            try clear c42b0
            try clear c42b1
            try clear c45
            try clear c45b0
            try clear c45b1
            try clear c46
            try clear c46b0
            try clear c46b1
            try clear c50
            try clear c50b0
            try clear c55
            try clear c55b0
            try clear c55b1
            try clear c58
            try clear c59
            try clear c59b0
            try clear c60
            try clear c60b0
            try clear c61
            try clear c61b0
            try clear c62
            try clear c62b0
            try clear p63
            try clear q63
            try clear hx63
            try clear hf63
            try clear p64
            try clear c69
            try clear c69b0
            try clear c69b1
            try clear hcz10_0
            try clear hcz10_1
            try clear hcz10_2
            try clear hcz17_0
            try clear hcz17_1
            try clear hcz17_2
            try clear hcz21_0
            try clear hcz21_1
            try clear hcz21_2
            try clear hcz31_0
            try clear hcz31_1
            try clear hcz31_2
            try clear hcz37_0
            try clear hcz37_1
            try clear hcz37_2
            try clear hcz40_0
            try clear hcz40_1
            try clear hcz40_2
            try clear hcz43_0
            try clear hcz43_1
            try clear hcz43_2
            try clear hcz44_0
            try clear hcz44_1
            try clear hcz44_2
            try clear hcz47_0
            try clear hcz47_1
            try clear hcz47_2
            try clear hcz53_0
            try clear hcz53_1
            try clear hcz53_2
            try clear hcz57_0
            try clear hcz57_1
            try clear hcz57_2
            try clear hcz64_0
            try clear hcz64_1
            try clear hcz64_2
            try clear hcz70_0
            try clear hcz70_1
            try clear hcz70_2
            try clear hcz71_0
            try clear hcz71_1
            try clear hcz71_2
            try clear hfz10_0
            try clear hfz10_1
            try clear hfz10_2
            try clear hfz17_0
            try clear hfz17_1
            try clear hfz17_2
            try clear hfz21_0
            try clear hfz21_1
            try clear hfz21_2
            try clear hfz31_0
            try clear hfz31_1
            try clear hfz31_2
            try clear hfz37_0
            try clear hfz37_1
            try clear hfz37_2
            try clear hfz40_0
            try clear hfz40_1
            try clear hfz40_2
            try clear hfz43_0
            try clear hfz43_1
            try clear hfz43_2
            try clear hfz44_0
            try clear hfz44_1
            try clear hfz44_2
            try clear hfz47_0
            try clear hfz47_1
            try clear hfz47_2
            try clear hfz53_0
            try clear hfz53_1
            try clear hfz53_2
            try clear hfz57_0
            try clear hfz57_1
            try clear hfz57_2
            try clear hfz64_0
            try clear hfz64_1
            try clear hfz64_2
            try clear hfz70_0
            try clear hfz70_1
            try clear hfz70_2
            try clear hfz71_0
            try clear hfz71_1
            try clear hfz71_2
            try clear hx239_0
            try clear hx240_0
            try clear hx241_0
            try clear hx242_0
            try clear hx251_0
            try clear hx252_0
            try clear hx253_0
            try clear hx30_0
            try clear hx63_0
            try clear p2
            try clear p23
            try clear p239
            try clear p24
            try clear p240
            try clear p241
            try clear p242
            try clear p251
            try clear p252
            try clear p253
            try clear p3
            try clear p30
            try clear p6
            try clear p63
            try clear q2
            try clear q23
            try clear q239
            try clear q24
            try clear q240
            try clear q241
            try clear q242
            try clear q251
            try clear q252
            try clear q253
            try clear q3
            try clear q30
            try clear q63
            obtain ⟨x7_3, x15_3, x21_3, rfl, HA, HK3, HO_7, HO_15, HO_230001, BK229, HB⟩ := hrel
            cases gk with
            | zero => exact absurd HA.out (by simp [airchecklaw24_BookSums.l4])
            | succ k3 =>
             have H := HA.out
             clear HA
             simp only [airchecklaw24_BookSums.l4] at H
             by_cases c72 : x21_3 < (t225.length : Int)
             ·rw [if_pos c72] at H
              have c72b0 : decide (x21_3 < (t225.length : Int)) = true := decide_eq_true c72
              clear c72
              by_cases c73 : 0 ≤ x21_3
              ·rw [if_pos c73] at H
               have c73b0 : decide (0 ≤ x21_3) = true := decide_eq_true c73
               clear c73
               by_cases c74 : 0 ≤ ((rd_T27 t225 x21_3).f3)
               ·rw [if_pos c74] at H
                have c74b0 : decide (0 ≤ ((rd_T27 t225 x21_3).f3)) = true := decide_eq_true c74
                clear c74
                by_cases c75 : ((rd_T27 t225 x21_3).f3) < (x7_3.length : Int)
                ·rw [if_pos c75] at H
                 have c75b0 : decide (((rd_T27 t225 x21_3).f3) < (x7_3.length : Int)) = true := decide_eq_true c75
                 clear c75
                 obtain ⟨y258, hy258⟩ : ∃ y_ : List Int, y_ = (x7_3.set (((rd_T27 t225 x21_3).f3) : Int).toNat (wrap64 ((rd x7_3 ((rd_T27 t225 x21_3).f3)) - ((rd_T27 t225 x21_3).f4)))) := ⟨_, rfl⟩
                 replace H : (if 0 ≤ ((rd_T27 t225 x21_3).f2) then (if ((rd_T27 t225 x21_3).f2) < (x7_3.length : Int) then (if ((rd_T27 t225 x21_3).f3) < (x15_3.length : Int) then ((some (x15_3.set (((rd_T27 t225 x21_3).f3) : Int).toNat (wrap64 ((rd x15_3 ((rd_T27 t225 x21_3).f3)) - ((rd_T27 t225 x21_3).f4))) : List Int)).bind fun y262 => (if ((rd_T27 t225 x21_3).f2) < (x15_3.length : Int) then (airchecklaw24_BookSums.l4 k3 t223 (y258.set (((rd_T27 t225 x21_3).f2) : Int).toNat (wrap64 ((rd y258 ((rd_T27 t225 x21_3).f2)) + ((rd_T27 t225 x21_3).f4)))) (y262.set (((rd_T27 t225 x21_3).f2) : Int).toNat (wrap64 ((rd y262 ((rd_T27 t225 x21_3).f2)) + ((rd_T27 t225 x21_3).f4)))) (wrap64 (x21_3 + 1)) t224 t225 t228) else (none))) else (none)) else (none)) else (none)) = some r := by first | (rw [hy258]; with_reducible exact H) | (have H2_ := (Option.bind_some _ _).symm.trans H; rw [hy258]; with_reducible exact H2_) | (have H2_ := (Option.bind_some _ _).symm.trans H; with_reducible exact H2_) | with_reducible exact H | (rw [hy258]; exact H) | exact H
                 have Ny258 := Aside0.mk hy258
                 clear hy258
                 by_cases c77 : 0 ≤ ((rd_T27 t225 x21_3).f2)
                 ·rw [if_pos c77] at H
                  have c77b0 : decide (0 ≤ ((rd_T27 t225 x21_3).f2)) = true := decide_eq_true c77
                  clear c77
                  by_cases c78 : ((rd_T27 t225 x21_3).f2) < (x7_3.length : Int)
                  ·rw [if_pos c78] at H
                   have c78b0 : decide (((rd_T27 t225 x21_3).f2) < (x7_3.length : Int)) = true := decide_eq_true c78
                   clear c78
                   obtain ⟨y260, hy260⟩ : ∃ y_ : List Int, y_ = (y258.set (((rd_T27 t225 x21_3).f2) : Int).toNat (wrap64 ((rd y258 ((rd_T27 t225 x21_3).f2)) + ((rd_T27 t225 x21_3).f4)))) := ⟨_, rfl⟩
                   replace H : (if ((rd_T27 t225 x21_3).f3) < (x15_3.length : Int) then ((some (x15_3.set (((rd_T27 t225 x21_3).f3) : Int).toNat (wrap64 ((rd x15_3 ((rd_T27 t225 x21_3).f3)) - ((rd_T27 t225 x21_3).f4))) : List Int)).bind fun y262 => (if ((rd_T27 t225 x21_3).f2) < (x15_3.length : Int) then (airchecklaw24_BookSums.l4 k3 t223 y260 (y262.set (((rd_T27 t225 x21_3).f2) : Int).toNat (wrap64 ((rd y262 ((rd_T27 t225 x21_3).f2)) + ((rd_T27 t225 x21_3).f4)))) (wrap64 (x21_3 + 1)) t224 t225 t228) else (none))) else (none)) = some r := by first | (rw [hy260]; with_reducible exact H) | (have H2_ := (Option.bind_some _ _).symm.trans H; rw [hy260]; with_reducible exact H2_) | (have H2_ := (Option.bind_some _ _).symm.trans H; with_reducible exact H2_) | with_reducible exact H | (rw [hy260]; exact H) | exact H
                   have Ny260 := Aside0.mk hy260
                   clear hy260
                   by_cases c80 : ((rd_T27 t225 x21_3).f3) < (x15_3.length : Int)
                   ·rw [if_pos c80] at H
                    have c80b0 : decide (((rd_T27 t225 x21_3).f3) < (x15_3.length : Int)) = true := decide_eq_true c80
                    clear c80
                    obtain ⟨y262, hy262⟩ : ∃ y_ : List Int, y_ = (x15_3.set (((rd_T27 t225 x21_3).f3) : Int).toNat (wrap64 ((rd x15_3 ((rd_T27 t225 x21_3).f3)) - ((rd_T27 t225 x21_3).f4)))) := ⟨_, rfl⟩
                    replace H : (if ((rd_T27 t225 x21_3).f2) < (x15_3.length : Int) then (airchecklaw24_BookSums.l4 k3 t223 y260 (y262.set (((rd_T27 t225 x21_3).f2) : Int).toNat (wrap64 ((rd y262 ((rd_T27 t225 x21_3).f2)) + ((rd_T27 t225 x21_3).f4)))) (wrap64 (x21_3 + 1)) t224 t225 t228) else (none)) = some r := by first | (rw [hy262]; with_reducible exact H) | (have H2_ := (Option.bind_some _ _).symm.trans H; rw [hy262]; with_reducible exact H2_) | (have H2_ := (Option.bind_some _ _).symm.trans H; with_reducible exact H2_) | with_reducible exact H | (rw [hy262]; exact H) | exact H
                    have Ny262 := Aside0.mk hy262
                    clear hy262
                    by_cases c82 : ((rd_T27 t225 x21_3).f2) < (x15_3.length : Int)
                    ·rw [if_pos c82] at H
                     have c82b0 : decide (((rd_T27 t225 x21_3).f2) < (x15_3.length : Int)) = true := decide_eq_true c82
                     clear c82
                     obtain ⟨y264, hy264⟩ : ∃ y_ : List Int, y_ = (y262.set (((rd_T27 t225 x21_3).f2) : Int).toNat (wrap64 ((rd y262 ((rd_T27 t225 x21_3).f2)) + ((rd_T27 t225 x21_3).f4)))) := ⟨_, rfl⟩
                     replace H : (airchecklaw24_BookSums.l4 k3 t223 y260 y264 (wrap64 (x21_3 + 1)) t224 t225 t228) = some r := by first | (rw [hy264]; with_reducible exact H) | (have H2_ := (Option.bind_some _ _).symm.trans H; rw [hy264]; with_reducible exact H2_) | (have H2_ := (Option.bind_some _ _).symm.trans H; with_reducible exact H2_) | with_reducible exact H | (rw [hy264]; exact H) | exact H
                     have Ny264 := Aside0.mk hy264
                     clear hy264
                     have H' := Aside0.mk H
                     clear H
                     have hcz84_0 : wr.cell? ⟨gb229, 0, none⟩ = some (.int .i64 t224) := (blk_cell BK229.out 0).trans rfl
                     have hcz84_1 : wr.cell? ⟨gb229, 1, none⟩ = some (.slice Ao11 t225.length co11) := (blk_cell BK229.out 1).trans rfl
                     have hcz84_2 : wr.cell? ⟨gb229, 2, none⟩ = some (.int .i64 t228) := (blk_cell BK229.out 2).trans rfl
                     have hfz84_0 := blk_frozen BK229.out 0
                     have hfz84_1 := blk_frozen BK229.out 1
                     have hfz84_2 := blk_frozen BK229.out 2
                     have p255 : 0 ≤ (x21_3 : Int) := of_decide_eq_true (by first | (with_reducible assumption) | assumption)
                     have q255 : x21_3 < (t225.length : Int) := of_decide_eq_true (by first | (with_reducible assumption) | assumption)
                     obtain ⟨ad255, e255, hx255_0, hx255_1, hx255_2, hx255_3, hx255_4, hx255_5, hx255_6⟩ := at_T27 (Kd.R_reads' HO_230001.out).2.2 x21_3 p255 q255
                     cases e255
                     replace p255 := eq_true p255
                     replace q255 := eq_true q255
                     try go_wp2_with (first | ((with_reducible refine gate_dst (N := 22) rfl ?_); (try (refine gate_guard (by rfl) ?_; dsimp only)); refine box_event ?hg (N := 22) ?hd (cs := #[.int .i64 0, .int .i64 0, .int .i64 0, .int .i64 0, .int .i64 0, .int .i64 0, .int .i64 0]) (t := 27) ?hr ?_; (case hd => rfl); (case hg => rfl); (case hr => first | (go_simp; done) | (go_simp; rfl)); intro gb256 hg w85 hbox hb; have n0_ := Aside0.mk (Kd.R_below (by (with_reducible repeat (first | apply Kd.R_alloc | apply Kd.R_drewN | apply Kd.R_drew)); exact HO_7.out) hb); have n1_ := Aside0.mk (Kd.R_below (by (with_reducible repeat (first | apply Kd.R_alloc | apply Kd.R_drewN | apply Kd.R_drew)); exact HO_15.out) hb); have n2_ := Aside0.mk (Kd.R_below (Kd.R_elderB (by (with_reducible repeat (first | apply Kd.R_alloc | apply Kd.R_drewN | apply Kd.R_drew)); exact HO_230001.out) gb256 (Nat.le_of_eq hg.symm)) hb); have n3_ := Aside0.mk (blk_below (g := gb229) (o := .cells #[.int .i64 t224, .slice (some ad255) t225.length co11, .int .i64 t228] 24 (0, 0)) (by (with_reducible repeat (first | refine blk_drewN ?_ _ | refine blk_drew ?_ | refine blk_alloc ?_ _)); exact BK229.out) hb); have n4_ := Aside0.mk (below_step (by repeat (first | (with_reducible first | exact HB.out | apply below_alloc | apply pw_below_drewN | apply below_drew1 | refine below_set ?_ GE229.out) | exact HB.out)) hb); have n5_ := Aside0.mk (hbox); have n6_ := Aside0.mk ((by rw [hg]; exact (below_size (by repeat (first | (with_reducible first | exact HB.out | apply below_alloc | apply pw_below_drewN | apply below_drew1 | refine below_set ?_ GE229.out) | exact HB.out))) : w.heap.size ≤ gb256)); have n7_ := Aside0.mk ((by rw [hg]; exact (below_size (by repeat (first | (with_reducible first | exact HB.out | apply below_alloc | apply pw_below_drewN | apply below_drew1 | refine below_set ?_ GE229.out) | exact HB.out))) : w.heap.size ≤ gb256)); have n8_ := Aside0.mk ((by rw [hg]; exact Nat.ne_of_lt (blk_lt (g := gb229) (o := .cells #[.int .i64 t224, .slice (some ad255) t225.length co11, .int .i64 t228] 24 (0, 0)) (by (with_reducible repeat (first | refine blk_drewN ?_ _ | refine blk_drew ?_ | refine blk_alloc ?_ _)); exact BK229.out)) : gb229 ≠ gb256)); have n9_ := Aside0.mk ((by rw [hg]; exact Nat.ne_of_gt (blk_lt (g := gb229) (o := .cells #[.int .i64 t224, .slice (some ad255) t225.length co11, .int .i64 t228] 24 (0, 0)) (by (with_reducible repeat (first | refine blk_drewN ?_ _ | refine blk_drew ?_ | refine blk_alloc ?_ _)); exact BK229.out)) : gb256 ≠ gb229)); clear HO_7; clear HO_15; clear HO_230001; clear BK229; clear HB; have HO_7 := n0_; have HO_15 := n1_; have HO_230001 := n2_; have BK229 := n3_; have HB := n4_; have BK256 := n5_; have GW256 := n6_; have GE256 := n7_; have NB229_256 := n8_; have NB256_229 := n9_; clear n0_ n1_ n2_ n3_ n4_ n5_ n6_ n7_ n8_ n9_; clear hb hbox hg; have hnb86 := NB256_229.out; have hnc86 := NB229_256.out; have hcz87_0 : w85.cell? ⟨gb256, 0, none⟩ = some (.int .i64 0) := (blk_cell BK256.out 0).trans rfl; have hcz87_1 : w85.cell? ⟨gb256, 1, none⟩ = some (.int .i64 0) := (blk_cell BK256.out 1).trans rfl; have hcz87_2 : w85.cell? ⟨gb256, 2, none⟩ = some (.int .i64 0) := (blk_cell BK256.out 2).trans rfl; have hcz87_3 : w85.cell? ⟨gb256, 3, none⟩ = some (.int .i64 0) := (blk_cell BK256.out 3).trans rfl; have hcz87_4 : w85.cell? ⟨gb256, 4, none⟩ = some (.int .i64 0) := (blk_cell BK256.out 4).trans rfl; have hcz87_5 : w85.cell? ⟨gb256, 5, none⟩ = some (.int .i64 0) := (blk_cell BK256.out 5).trans rfl; have hcz87_6 : w85.cell? ⟨gb256, 6, none⟩ = some (.int .i64 0) := (blk_cell BK256.out 6).trans rfl; have hfz87_0 := blk_frozen BK256.out 0; have hfz87_1 := blk_frozen BK256.out 1; have hfz87_2 := blk_frozen BK256.out 2; have hfz87_3 := blk_frozen BK256.out 3; have hfz87_4 := blk_frozen BK256.out 4; have hfz87_5 := blk_frozen BK256.out 5; have hfz87_6 := blk_frozen BK256.out 6))
                     have n0_ : Aside0 (Kd.R (Kd.int .i64) 3 (((((((w85.setCell ⟨gb256, 0, none⟩ (.int .i64 ((rd_T27 t225 x21_3).f0))).setCell ⟨gb256, 1, none⟩ (.int .i64 ((rd_T27 t225 x21_3).f1))).setCell ⟨gb256, 2, none⟩ (.int .i64 ((rd_T27 t225 x21_3).f2))).setCell ⟨gb256, 3, none⟩ (.int .i64 ((rd_T27 t225 x21_3).f3))).setCell ⟨gb256, 4, none⟩ (.int .i64 ((rd_T27 t225 x21_3).f4))).setCell ⟨gb256, 5, none⟩ (.int .i64 ((rd_T27 t225 x21_3).f5))).setCell ⟨gb256, 6, none⟩ (.int .i64 ((rd_T27 t225 x21_3).f6))) w.heap.size (fun k_ => some k_ ≠ (v245 : Value).ownBlock) v231 x7_3) := ⟨by (with_reducible repeat (first | apply Kd.R_alloc | apply Kd.R_drewN | apply Kd.R_drew)); exact Kd.R_mono (Kd.R_far (p := ⟨gb256, 6, none⟩) (Kd.R_far (p := ⟨gb256, 5, none⟩) (Kd.R_far (p := ⟨gb256, 4, none⟩) (Kd.R_far (p := ⟨gb256, 3, none⟩) (Kd.R_far (p := ⟨gb256, 2, none⟩) (Kd.R_far (p := ⟨gb256, 1, none⟩) (Kd.R_far (p := ⟨gb256, 0, none⟩) (Kd.R_types HO_7.out BK256.out (by decide)) (fun _ hk => hk.2) (.int .i64 ((rd_T27 t225 x21_3).f0))) (fun _ hk => hk.2) (.int .i64 ((rd_T27 t225 x21_3).f1))) (fun _ hk => hk.2) (.int .i64 ((rd_T27 t225 x21_3).f2))) (fun _ hk => hk.2) (.int .i64 ((rd_T27 t225 x21_3).f3))) (fun _ hk => hk.2) (.int .i64 ((rd_T27 t225 x21_3).f4))) (fun _ hk => hk.2) (.int .i64 ((rd_T27 t225 x21_3).f5))) (fun _ hk => hk.2) (.int .i64 ((rd_T27 t225 x21_3).f6))) (fun _ hk => hk.1)⟩
                     have n1_ : Aside0 (Kd.R (Kd.int .i64) 3 (((((((w85.setCell ⟨gb256, 0, none⟩ (.int .i64 ((rd_T27 t225 x21_3).f0))).setCell ⟨gb256, 1, none⟩ (.int .i64 ((rd_T27 t225 x21_3).f1))).setCell ⟨gb256, 2, none⟩ (.int .i64 ((rd_T27 t225 x21_3).f2))).setCell ⟨gb256, 3, none⟩ (.int .i64 ((rd_T27 t225 x21_3).f3))).setCell ⟨gb256, 4, none⟩ (.int .i64 ((rd_T27 t225 x21_3).f4))).setCell ⟨gb256, 5, none⟩ (.int .i64 ((rd_T27 t225 x21_3).f5))).setCell ⟨gb256, 6, none⟩ (.int .i64 ((rd_T27 t225 x21_3).f6))) w.heap.size (fun k_ => some k_ ≠ (v231 : Value).ownBlock) v245 x15_3) := ⟨by (with_reducible repeat (first | apply Kd.R_alloc | apply Kd.R_drewN | apply Kd.R_drew)); exact Kd.R_mono (Kd.R_far (p := ⟨gb256, 6, none⟩) (Kd.R_far (p := ⟨gb256, 5, none⟩) (Kd.R_far (p := ⟨gb256, 4, none⟩) (Kd.R_far (p := ⟨gb256, 3, none⟩) (Kd.R_far (p := ⟨gb256, 2, none⟩) (Kd.R_far (p := ⟨gb256, 1, none⟩) (Kd.R_far (p := ⟨gb256, 0, none⟩) (Kd.R_types HO_15.out BK256.out (by decide)) (fun _ hk => hk.2) (.int .i64 ((rd_T27 t225 x21_3).f0))) (fun _ hk => hk.2) (.int .i64 ((rd_T27 t225 x21_3).f1))) (fun _ hk => hk.2) (.int .i64 ((rd_T27 t225 x21_3).f2))) (fun _ hk => hk.2) (.int .i64 ((rd_T27 t225 x21_3).f3))) (fun _ hk => hk.2) (.int .i64 ((rd_T27 t225 x21_3).f4))) (fun _ hk => hk.2) (.int .i64 ((rd_T27 t225 x21_3).f5))) (fun _ hk => hk.2) (.int .i64 ((rd_T27 t225 x21_3).f6))) (fun _ hk => hk.1)⟩
                     have n2_ : Aside0 (Kd.R k27 27 (((((((w85.setCell ⟨gb256, 0, none⟩ (.int .i64 ((rd_T27 t225 x21_3).f0))).setCell ⟨gb256, 1, none⟩ (.int .i64 ((rd_T27 t225 x21_3).f1))).setCell ⟨gb256, 2, none⟩ (.int .i64 ((rd_T27 t225 x21_3).f2))).setCell ⟨gb256, 3, none⟩ (.int .i64 ((rd_T27 t225 x21_3).f3))).setCell ⟨gb256, 4, none⟩ (.int .i64 ((rd_T27 t225 x21_3).f4))).setCell ⟨gb256, 5, none⟩ (.int .i64 ((rd_T27 t225 x21_3).f5))).setCell ⟨gb256, 6, none⟩ (.int .i64 ((rd_T27 t225 x21_3).f6))) w.heap.size (fun k_ => k_ ≠ gb256) (.slice (some ad255) t225.length co11) t225) := ⟨by (with_reducible repeat (first | apply Kd.R_alloc | apply Kd.R_drewN | apply Kd.R_drew)); exact Kd.R_mono (Kd.R_far (p := ⟨gb256, 6, none⟩) (Kd.R_far (p := ⟨gb256, 5, none⟩) (Kd.R_far (p := ⟨gb256, 4, none⟩) (Kd.R_far (p := ⟨gb256, 3, none⟩) (Kd.R_far (p := ⟨gb256, 2, none⟩) (Kd.R_far (p := ⟨gb256, 1, none⟩) (Kd.R_far (p := ⟨gb256, 0, none⟩) (Kd.R_mono HO_230001.out (fun k_ hk => (⟨hk, hk.2⟩ : _ ∧ k_ ≠ gb256))) (fun _ hk => hk.2) (.int .i64 ((rd_T27 t225 x21_3).f0))) (fun _ hk => hk.2) (.int .i64 ((rd_T27 t225 x21_3).f1))) (fun _ hk => hk.2) (.int .i64 ((rd_T27 t225 x21_3).f2))) (fun _ hk => hk.2) (.int .i64 ((rd_T27 t225 x21_3).f3))) (fun _ hk => hk.2) (.int .i64 ((rd_T27 t225 x21_3).f4))) (fun _ hk => hk.2) (.int .i64 ((rd_T27 t225 x21_3).f5))) (fun _ hk => hk.2) (.int .i64 ((rd_T27 t225 x21_3).f6))) (fun _ hk => hk.1.2)⟩
                     have n3_ : Aside0 ((((((((w85.setCell ⟨gb256, 0, none⟩ (.int .i64 ((rd_T27 t225 x21_3).f0))).setCell ⟨gb256, 1, none⟩ (.int .i64 ((rd_T27 t225 x21_3).f1))).setCell ⟨gb256, 2, none⟩ (.int .i64 ((rd_T27 t225 x21_3).f2))).setCell ⟨gb256, 3, none⟩ (.int .i64 ((rd_T27 t225 x21_3).f3))).setCell ⟨gb256, 4, none⟩ (.int .i64 ((rd_T27 t225 x21_3).f4))).setCell ⟨gb256, 5, none⟩ (.int .i64 ((rd_T27 t225 x21_3).f5))).setCell ⟨gb256, 6, none⟩ (.int .i64 ((rd_T27 t225 x21_3).f6))).heap[gb229]? = some (.cells #[.int .i64 t224, .slice (some ad255) t225.length co11, .int .i64 t228] 24 (0, 0))) := ⟨by (with_reducible repeat (first | refine blk_drewN ?_ _ | refine blk_drew ?_ | refine blk_alloc ?_ _)); refine blk_far ?_ NB229_256.out _; (with_reducible repeat (first | refine blk_drewN ?_ _ | refine blk_drew ?_ | refine blk_alloc ?_ _)); refine blk_far ?_ NB229_256.out _; (with_reducible repeat (first | refine blk_drewN ?_ _ | refine blk_drew ?_ | refine blk_alloc ?_ _)); refine blk_far ?_ NB229_256.out _; (with_reducible repeat (first | refine blk_drewN ?_ _ | refine blk_drew ?_ | refine blk_alloc ?_ _)); refine blk_far ?_ NB229_256.out _; (with_reducible repeat (first | refine blk_drewN ?_ _ | refine blk_drew ?_ | refine blk_alloc ?_ _)); refine blk_far ?_ NB229_256.out _; (with_reducible repeat (first | refine blk_drewN ?_ _ | refine blk_drew ?_ | refine blk_alloc ?_ _)); refine blk_far ?_ NB229_256.out _; (with_reducible repeat (first | refine blk_drewN ?_ _ | refine blk_drew ?_ | refine blk_alloc ?_ _)); refine blk_far ?_ NB229_256.out _; (with_reducible repeat (first | refine blk_drewN ?_ _ | refine blk_drew ?_ | refine blk_alloc ?_ _)); exact BK229.out⟩
                     have n4_ : Aside0 ((((((((w85.setCell ⟨gb256, 0, none⟩ (.int .i64 ((rd_T27 t225 x21_3).f0))).setCell ⟨gb256, 1, none⟩ (.int .i64 ((rd_T27 t225 x21_3).f1))).setCell ⟨gb256, 2, none⟩ (.int .i64 ((rd_T27 t225 x21_3).f2))).setCell ⟨gb256, 3, none⟩ (.int .i64 ((rd_T27 t225 x21_3).f3))).setCell ⟨gb256, 4, none⟩ (.int .i64 ((rd_T27 t225 x21_3).f4))).setCell ⟨gb256, 5, none⟩ (.int .i64 ((rd_T27 t225 x21_3).f5))).setCell ⟨gb256, 6, none⟩ (.int .i64 ((rd_T27 t225 x21_3).f6))).heap[gb256]? = some (.cells #[.int .i64 ((rd_T27 t225 x21_3).f0), .int .i64 ((rd_T27 t225 x21_3).f1), .int .i64 ((rd_T27 t225 x21_3).f2), .int .i64 ((rd_T27 t225 x21_3).f3), .int .i64 ((rd_T27 t225 x21_3).f4), .int .i64 ((rd_T27 t225 x21_3).f5), .int .i64 ((rd_T27 t225 x21_3).f6)] 27 (0, 0))) := ⟨by (with_reducible repeat (first | refine blk_drewN ?_ _ | refine blk_drew ?_ | refine blk_alloc ?_ _)); refine blk_put (cs := #[.int .i64 ((rd_T27 t225 x21_3).f0), .int .i64 ((rd_T27 t225 x21_3).f1), .int .i64 ((rd_T27 t225 x21_3).f2), .int .i64 ((rd_T27 t225 x21_3).f3), .int .i64 ((rd_T27 t225 x21_3).f4), .int .i64 ((rd_T27 t225 x21_3).f5), .int .i64 0]) ?_ 6 _ rfl; (with_reducible repeat (first | refine blk_drewN ?_ _ | refine blk_drew ?_ | refine blk_alloc ?_ _)); refine blk_put (cs := #[.int .i64 ((rd_T27 t225 x21_3).f0), .int .i64 ((rd_T27 t225 x21_3).f1), .int .i64 ((rd_T27 t225 x21_3).f2), .int .i64 ((rd_T27 t225 x21_3).f3), .int .i64 ((rd_T27 t225 x21_3).f4), .int .i64 0, .int .i64 0]) ?_ 5 _ rfl; (with_reducible repeat (first | refine blk_drewN ?_ _ | refine blk_drew ?_ | refine blk_alloc ?_ _)); refine blk_put (cs := #[.int .i64 ((rd_T27 t225 x21_3).f0), .int .i64 ((rd_T27 t225 x21_3).f1), .int .i64 ((rd_T27 t225 x21_3).f2), .int .i64 ((rd_T27 t225 x21_3).f3), .int .i64 0, .int .i64 0, .int .i64 0]) ?_ 4 _ rfl; (with_reducible repeat (first | refine blk_drewN ?_ _ | refine blk_drew ?_ | refine blk_alloc ?_ _)); refine blk_put (cs := #[.int .i64 ((rd_T27 t225 x21_3).f0), .int .i64 ((rd_T27 t225 x21_3).f1), .int .i64 ((rd_T27 t225 x21_3).f2), .int .i64 0, .int .i64 0, .int .i64 0, .int .i64 0]) ?_ 3 _ rfl; (with_reducible repeat (first | refine blk_drewN ?_ _ | refine blk_drew ?_ | refine blk_alloc ?_ _)); refine blk_put (cs := #[.int .i64 ((rd_T27 t225 x21_3).f0), .int .i64 ((rd_T27 t225 x21_3).f1), .int .i64 0, .int .i64 0, .int .i64 0, .int .i64 0, .int .i64 0]) ?_ 2 _ rfl; (with_reducible repeat (first | refine blk_drewN ?_ _ | refine blk_drew ?_ | refine blk_alloc ?_ _)); refine blk_put (cs := #[.int .i64 ((rd_T27 t225 x21_3).f0), .int .i64 0, .int .i64 0, .int .i64 0, .int .i64 0, .int .i64 0, .int .i64 0]) ?_ 1 _ rfl; (with_reducible repeat (first | refine blk_drewN ?_ _ | refine blk_drew ?_ | refine blk_alloc ?_ _)); refine blk_put (cs := #[.int .i64 0, .int .i64 0, .int .i64 0, .int .i64 0, .int .i64 0, .int .i64 0, .int .i64 0]) ?_ 0 _ rfl; (with_reducible repeat (first | refine blk_drewN ?_ _ | refine blk_drew ?_ | refine blk_alloc ?_ _)); exact BK256.out⟩
                     have n5_ : Aside0 (Below w.heap.size w (((((((w85.setCell ⟨gb256, 0, none⟩ (.int .i64 ((rd_T27 t225 x21_3).f0))).setCell ⟨gb256, 1, none⟩ (.int .i64 ((rd_T27 t225 x21_3).f1))).setCell ⟨gb256, 2, none⟩ (.int .i64 ((rd_T27 t225 x21_3).f2))).setCell ⟨gb256, 3, none⟩ (.int .i64 ((rd_T27 t225 x21_3).f3))).setCell ⟨gb256, 4, none⟩ (.int .i64 ((rd_T27 t225 x21_3).f4))).setCell ⟨gb256, 5, none⟩ (.int .i64 ((rd_T27 t225 x21_3).f5))).setCell ⟨gb256, 6, none⟩ (.int .i64 ((rd_T27 t225 x21_3).f6)))) := ⟨by repeat (first | (with_reducible first | exact HB.out | apply below_alloc | apply pw_below_drewN | apply below_drew1 | refine below_set ?_ GE229.out | refine below_set ?_ GE256.out) | exact HB.out)⟩
                     (try clear HO_7)
                     (try clear HO_15)
                     (try clear HO_230001)
                     (try clear BK229)
                     (try clear BK256)
                     (try clear HB)
                     generalize (((((((w85.setCell ⟨gb256, 0, none⟩ (.int .i64 ((rd_T27 t225 x21_3).f0))).setCell ⟨gb256, 1, none⟩ (.int .i64 ((rd_T27 t225 x21_3).f1))).setCell ⟨gb256, 2, none⟩ (.int .i64 ((rd_T27 t225 x21_3).f2))).setCell ⟨gb256, 3, none⟩ (.int .i64 ((rd_T27 t225 x21_3).f3))).setCell ⟨gb256, 4, none⟩ (.int .i64 ((rd_T27 t225 x21_3).f4))).setCell ⟨gb256, 5, none⟩ (.int .i64 ((rd_T27 t225 x21_3).f5))).setCell ⟨gb256, 6, none⟩ (.int .i64 ((rd_T27 t225 x21_3).f6))) = w88 at n0_ n1_ n2_ n3_ n4_ n5_ ⊢
                     have HO_7 := n0_
                     have HO_15 := n1_
                     have HO_230001 := n2_
                     have BK229 := n3_
                     have BK256 := n4_
                     have HB := n5_
                     clear n0_ n1_ n2_ n3_ n4_ n5_
                     have n0_ := Aside0.mk (Kd.R_drew HO_7.out)
                     have n1_ := Aside0.mk (Kd.R_drew HO_15.out)
                     have n2_ := Aside0.mk (Kd.R_drew HO_230001.out)
                     have n3_ := Aside0.mk (blk_drew BK229.out)
                     have n4_ := Aside0.mk (blk_drew BK256.out)
                     have n5_ := Aside0.mk (below_drew1 HB.out)
                     clear HO_7
                     clear HO_15
                     clear HO_230001
                     clear BK229
                     clear BK256
                     clear HB
                     have HO_7 := n0_
                     have HO_15 := n1_
                     have HO_230001 := n2_
                     have BK229 := n3_
                     have BK256 := n4_
                     have HB := n5_
                     clear n0_ n1_ n2_ n3_ n4_ n5_
                     obtain ⟨Ao90, co90, eo90⟩ := Kd.R_slice HO_7.out
                     (first | subst eo90 | (injection eo90 with f1_ f2_ f3_; have f4_ := f1_.symm; have f5_ := f3_.symm; clear f1_ f2_ f3_; subst f4_; subst f5_))
                     have p257 : 0 ≤ (((rd_T27 t225 x21_3).f3) : Int) := of_decide_eq_true (by first | (with_reducible assumption) | assumption)
                     have q257 : ((rd_T27 t225 x21_3).f3) < (x7_3.length : Int) := of_decide_eq_true (by first | (with_reducible assumption) | assumption)
                     obtain ⟨ad257, e257, hx257_0⟩ := Kd.at_int (Kd.R_reads' HO_7.out).2.2 ((rd_T27 t225 x21_3).f3) p257 q257
                     cases e257
                     replace p257 := eq_true p257
                     replace q257 := eq_true q257
                     have p76 : 0 ≤ (((rd_T27 t225 x21_3).f3) : Int) := of_decide_eq_true (by first | (with_reducible assumption) | assumption)
                     have q76 : (((rd_T27 t225 x21_3).f3) : Int) < ((x7_3.length : Int) : Int) := of_decide_eq_true (by first | (with_reducible assumption) | assumption)
                     obtain ⟨go76, co76, eo76, gb76, gl76, cl76, HG76⟩ := Kd.R_form HO_7.out (by omega)
                     (first | cases eo76 | (injection eo76 with ea_ en_ ec_; (first | subst ea_ | (injection ea_ with ea_; subst ea_)); subst ec_; clear en_))
                     have GB76 := Aside0.mk gb76
                     have GG76 := Aside0.mk HG76
                     clear gb76 gl76 HG76
                     (first | simp only [add_plain] at hx257_0 | skip)
                     obtain ⟨hx76_0, hf76_0⟩ := Kd.R_celln 0 HO_7.out (((rd_T27 t225 x21_3).f3) : Int) p76 q76
                     replace p76 := eq_true p76
                     replace q76 := eq_true q76
                     have HP91 := Kd.R_putn HO_7.out (((rd_T27 t225 x21_3).f3) : Int) (wrap64 ((rd x7_3 ((rd_T27 t225 x21_3).f3)) - ((rd_T27 t225 x21_3).f4)))
                     rw [← Ny258.out] at HP91
                     have HQ91 := Aside0.mk HP91
                     clear HP91
                     refine start_ (n := 13) (S := fun w' => w'.cell? ⟨gb256, 0, none⟩ = some (.int .i64 ((rd_T27 t225 x21_3).f0)) ∧ w'.cell? ⟨gb256, 1, none⟩ = some (.int .i64 ((rd_T27 t225 x21_3).f1)) ∧ w'.cell? ⟨gb256, 2, none⟩ = some (.int .i64 ((rd_T27 t225 x21_3).f2)) ∧ w'.cell? ⟨gb256, 3, none⟩ = some (.int .i64 ((rd_T27 t225 x21_3).f3)) ∧ w'.cell? ⟨gb256, 4, none⟩ = some (.int .i64 ((rd_T27 t225 x21_3).f4)) ∧ w'.cell? ⟨gb256, 5, none⟩ = some (.int .i64 ((rd_T27 t225 x21_3).f5)) ∧ w'.cell? ⟨gb256, 6, none⟩ = some (.int .i64 ((rd_T27 t225 x21_3).f6)) ∧ w'.cell? (⟨go76, ((((rd_T27 t225 x21_3).f3)) : Int).toNat, none⟩) = some (.int .i64 (rd x7_3 ((rd_T27 t225 x21_3).f3)))) (ds := [12]) #[false, false, false, false, false, false, false, false, false, false, false, false, false] (by kernel_rfl) rfl rfl ⟨(blk_cell BK256.out 0).trans rfl, (blk_cell BK256.out 1).trans rfl, (blk_cell BK256.out 2).trans rfl, (blk_cell BK256.out 3).trans rfl, (blk_cell BK256.out 4).trans rfl, (blk_cell BK256.out 5).trans rfl, (blk_cell BK256.out 6).trans rfl, hx257_0⟩ (fun hHeld => ?_); refine with_tabW airchecklaw24_BookSums.tab40 airchecklaw24_BookSums.bits40 (fun HT_ HW_ => ?_)
                     generalize w88.drew = w89 at HO_7 HO_15 HO_230001 BK229 BK256 HB GG76 HQ91 hf76_0 hx257_0 hx76_0 hHeld ⊢
                     refine pure_ (i := 0) (N := some 152) (v := ?_) (a' := ?_) #[true, false, false, false, false, false, false, false, false, false, false, false, false] rfl rfl (any_of HT_.out (by kernel_rfl)) (fun _ _ _ h => h) (Or.inl ⟨by rfl, ?_⟩) ?_ ?_
                     rotate_left
                     ·intro w'
                      go_simp
                      with_reducible rfl
                     rotate_left
                     ·simp only [Act.put, List.setIfInBounds_toArray, List.set_cons_zero, List.set_cons_succ, i64_w, i32_w]
                      rfl
                     refine pure_ (i := 1) (N := some 153) (v := ?_) (a' := ?_) #[true, true, false, false, false, false, false, false, false, false, false, false, false] rfl rfl (any_of HT_.out (by kernel_rfl)) (fun _ _ _ h => h) (Or.inl ⟨by rfl, ?_⟩) ?_ ?_
                     rotate_left
                     ·intro w'
                      go_simp
                      with_reducible rfl
                     rotate_left
                     ·simp only [Act.put, List.setIfInBounds_toArray, List.set_cons_zero, List.set_cons_succ, i64_w, i32_w]
                      rfl
                     refine pure_ (i := 3) (N := some 155) (v := ?_) (a' := ?_) #[true, true, false, true, false, false, false, false, false, false, false, false, false] rfl rfl (any_of HT_.out (by kernel_rfl)) (fun _ _ _ h => h) (Or.inl ⟨by rfl, ?_⟩) ?_ ?_
                     rotate_left
                     ·intro w'
                      go_simp
                      with_reducible rfl
                     rotate_left
                     ·simp only [Act.put, List.setIfInBounds_toArray, List.set_cons_zero, List.set_cons_succ, i64_w, i32_w]
                      rfl
                     refine pure_ (i := 4) (N := some 156) (v := ?_) (a' := ?_) #[true, true, false, true, true, false, false, false, false, false, false, false, false] rfl rfl (any_of HT_.out (by kernel_rfl)) (fun _ _ _ h => h) (Or.inl ⟨by rfl, ?_⟩) ?_ ?_
                     rotate_left
                     ·intro w'
                      go_simp
                      with_reducible rfl
                     rotate_left
                     ·simp only [Act.put, List.setIfInBounds_toArray, List.set_cons_zero, List.set_cons_succ, i64_w, i32_w]
                      rfl
                     refine pure_ (i := 8) (N := some 160) (v := ?_) (a' := ?_) #[true, true, false, true, true, false, false, false, true, false, false, false, false] rfl rfl (any_of HT_.out (by kernel_rfl)) (fun _ _ _ h => h) (Or.inl ⟨by rfl, ?_⟩) ?_ ?_
                     rotate_left
                     ·intro w'
                      go_simp
                      with_reducible rfl
                     rotate_left
                     ·simp only [Act.put, List.setIfInBounds_toArray, List.set_cons_zero, List.set_cons_succ, i64_w, i32_w]
                      rfl
                     refine take_ (i := 2) (N := some 154) (v := ?_) (a' := ?_) #[true, true, true, true, true, false, false, false, true, false, false, false, false] rfl rfl (take_ofW HT_.out HW_.out (by kernel_rfl)) (fun _ _ _ h => h) (Or.inl ⟨by rfl, ?_⟩) hHeld ?_ ?_
                     rotate_left
                     ·rintro w' ⟨s0, s1, s2, s3, s4, s5, s6, s7⟩
                      go_simp
                      with_reducible rfl
                     rotate_left
                     ·simp only [Act.put, List.setIfInBounds_toArray, List.set_cons_zero, List.set_cons_succ, i64_w, i32_w]
                      rfl
                     refine take_ (i := 5) (N := some 157) (v := ?_) (a' := ?_) #[true, true, true, true, true, true, false, false, true, false, false, false, false] rfl rfl (take_ofW HT_.out HW_.out (by kernel_rfl)) (fun _ _ _ h => h) (Or.inl ⟨by rfl, ?_⟩) hHeld ?_ ?_
                     rotate_left
                     ·rintro w' ⟨s0, s1, s2, s3, s4, s5, s6, s7⟩
                      go_simp
                      with_reducible rfl
                     rotate_left
                     ·simp only [Act.put, List.setIfInBounds_toArray, List.set_cons_zero, List.set_cons_succ, i64_w, i32_w]
                      rfl
                     refine pure_ (i := 6) (N := some 158) (v := ?_) (a' := ?_) #[true, true, true, true, true, true, true, false, true, false, false, false, false] rfl rfl (any_of HT_.out (by kernel_rfl)) (fun _ _ _ h => h) (Or.inl ⟨by rfl, ?_⟩) ?_ ?_
                     rotate_left
                     ·intro w'
                      go_simp
                      with_reducible rfl
                     rotate_left
                     ·simp only [Act.put, List.setIfInBounds_toArray, List.set_cons_zero, List.set_cons_succ, i64_w, i32_w]
                      rfl
                     refine take_ (i := 7) (N := some 159) (v := ?_) (a' := ?_) #[true, true, true, true, true, true, true, true, true, false, false, false, false] rfl rfl (take_ofW HT_.out HW_.out (by kernel_rfl)) (fun _ _ _ h => h) (Or.inl ⟨by rfl, ?_⟩) hHeld ?_ ?_
                     rotate_left
                     ·rintro w' ⟨s0, s1, s2, s3, s4, s5, s6, s7⟩
                      go_simp
                      with_reducible rfl
                     rotate_left
                     ·simp only [Act.put, List.setIfInBounds_toArray, List.set_cons_zero, List.set_cons_succ, i64_w, i32_w]
                      rfl
                     refine take_ (i := 9) (N := some 161) (v := ?_) (a' := ?_) #[true, true, true, true, true, true, true, true, true, true, false, false, false] rfl rfl (take_ofW HT_.out HW_.out (by kernel_rfl)) (fun _ _ _ h => h) (Or.inl ⟨by rfl, ?_⟩) hHeld ?_ ?_
                     rotate_left
                     ·rintro w' ⟨s0, s1, s2, s3, s4, s5, s6, s7⟩
                      go_simp
                      with_reducible rfl
                     rotate_left
                     ·simp only [Act.put, List.setIfInBounds_toArray, List.set_cons_zero, List.set_cons_succ, i64_w, i32_w]
                      rfl
                     refine pure_ (i := 10) (N := some 162) (v := ?_) (a' := ?_) #[true, true, true, true, true, true, true, true, true, true, true, false, false] rfl rfl (any_of HT_.out (by kernel_rfl)) (fun _ _ _ h => h) (Or.inl ⟨by rfl, ?_⟩) ?_ ?_
                     rotate_left
                     ·intro w'
                      go_simp
                      with_reducible rfl
                     rotate_left
                     ·simp only [Act.put, List.setIfInBounds_toArray, List.set_cons_zero, List.set_cons_succ, i64_w, i32_w]
                      rfl
                     refine pure_ (i := 11) (N := some 163) (v := ?_) (a' := ?_) #[true, true, true, true, true, true, true, true, true, true, true, true, false] rfl rfl (any_of HT_.out (by kernel_rfl)) (fun _ _ _ h => h) (Or.inl ⟨by rfl, ?_⟩) ?_ ?_
                     rotate_left
                     ·intro w'
                      go_simp
                      with_reducible rfl
                     rotate_left
                     ·simp only [Act.put, List.setIfInBounds_toArray, List.set_cons_zero, List.set_cons_succ, i64_w, i32_w]
                      rfl
                     refine last_ (i := 12) (N := none) #[true, true, true, true, true, true, true, true, true, true, true, true, true] rfl rfl (one_of HT_.out (by kernel_rfl)) (by decide) (fun K hK => ?_)
                     refine skip_ (w1 := ?_) (by rfl) rfl ?_ ?_
                     rotate_left
                     ·go_simp
                      rfl
                     refine hK.out _ _ ?_
                     clear hK K
                     refine done_ (done_of HT_.out (by kernel_rfl)) ?_
                     try go_wp2
                     have n0_ : Aside0 (Kd.R (Kd.int .i64) 3 (w89.setCell ⟨go76, (((rd_T27 t225 x21_3).f3) : Int).toNat, none⟩ (.int .i64 (wrap64 ((rd x7_3 ((rd_T27 t225 x21_3).f3)) - ((rd_T27 t225 x21_3).f4))))) w.heap.size (fun k_ => some k_ ≠ (v245 : Value).ownBlock) (.slice (some ⟨go76, 0, none⟩) x7_3.length co90) y258) := ⟨by (with_reducible repeat (first | apply Kd.R_alloc | apply Kd.R_drewN | apply Kd.R_drew)); exact HQ91.out⟩
                     have n1_ : Aside0 (Kd.R (Kd.int .i64) 3 (w89.setCell ⟨go76, (((rd_T27 t225 x21_3).f3) : Int).toNat, none⟩ (.int .i64 (wrap64 ((rd x7_3 ((rd_T27 t225 x21_3).f3)) - ((rd_T27 t225 x21_3).f4))))) w.heap.size (fun k_ => some k_ ≠ (.slice (some ⟨go76, 0, none⟩) x7_3.length co90 : Value).ownBlock) v245 x15_3) := ⟨by (with_reducible repeat (first | apply Kd.R_alloc | apply Kd.R_drewN | apply Kd.R_drew)); exact Kd.R_mono (Kd.R_far (p := ⟨go76, (((rd_T27 t225 x21_3).f3) : Int).toNat, none⟩) (Kd.R_mono HO_15.out (fun k_ hk => (⟨hk, fun e_ => hk (by rw [e_]; rfl)⟩ : _ ∧ k_ ≠ go76))) (fun _ hk => hk.2) (.int .i64 (wrap64 ((rd x7_3 ((rd_T27 t225 x21_3).f3)) - ((rd_T27 t225 x21_3).f4))))) (fun _ hk => hk.1)⟩
                     have n2_ : Aside0 (Kd.R k27 27 (w89.setCell ⟨go76, (((rd_T27 t225 x21_3).f3) : Int).toNat, none⟩ (.int .i64 (wrap64 ((rd x7_3 ((rd_T27 t225 x21_3).f3)) - ((rd_T27 t225 x21_3).f4))))) w.heap.size (fun k_ => k_ ≠ gb256) (.slice (some ad255) t225.length co11) t225) := ⟨by (with_reducible repeat (first | apply Kd.R_alloc | apply Kd.R_drewN | apply Kd.R_drew)); exact Kd.R_mono (Kd.R_far (p := ⟨go76, (((rd_T27 t225 x21_3).f3) : Int).toNat, none⟩) (Kd.R_types HO_230001.out GG76.out (by decide)) (fun _ hk => hk.2) (.int .i64 (wrap64 ((rd x7_3 ((rd_T27 t225 x21_3).f3)) - ((rd_T27 t225 x21_3).f4))))) (fun _ hk => hk.1)⟩
                     have n3_ : Aside0 ((w89.setCell ⟨go76, (((rd_T27 t225 x21_3).f3) : Int).toNat, none⟩ (.int .i64 (wrap64 ((rd x7_3 ((rd_T27 t225 x21_3).f3)) - ((rd_T27 t225 x21_3).f4))))).heap[gb229]? = some (.cells #[.int .i64 t224, .slice (some ad255) t225.length co11, .int .i64 t228] 24 (0, 0))) := ⟨by (with_reducible repeat (first | refine blk_drewN ?_ _ | refine blk_drew ?_ | refine blk_alloc ?_ _)); refine blk_far ?_ (by have h_ := Kd.R_ne HO_7.out BK229.out (by decide); intro e_; exact h_ (by rw [e_]; rfl)) _; (with_reducible repeat (first | refine blk_drewN ?_ _ | refine blk_drew ?_ | refine blk_alloc ?_ _)); exact BK229.out⟩
                     have n4_ : Aside0 ((w89.setCell ⟨go76, (((rd_T27 t225 x21_3).f3) : Int).toNat, none⟩ (.int .i64 (wrap64 ((rd x7_3 ((rd_T27 t225 x21_3).f3)) - ((rd_T27 t225 x21_3).f4))))).heap[gb256]? = some (.cells #[.int .i64 ((rd_T27 t225 x21_3).f0), .int .i64 ((rd_T27 t225 x21_3).f1), .int .i64 ((rd_T27 t225 x21_3).f2), .int .i64 ((rd_T27 t225 x21_3).f3), .int .i64 ((rd_T27 t225 x21_3).f4), .int .i64 ((rd_T27 t225 x21_3).f5), .int .i64 ((rd_T27 t225 x21_3).f6)] 27 (0, 0))) := ⟨by (with_reducible repeat (first | refine blk_drewN ?_ _ | refine blk_drew ?_ | refine blk_alloc ?_ _)); refine blk_far ?_ (by have h_ := Kd.R_ne HO_7.out BK256.out (by decide); intro e_; exact h_ (by rw [e_]; rfl)) _; (with_reducible repeat (first | refine blk_drewN ?_ _ | refine blk_drew ?_ | refine blk_alloc ?_ _)); exact BK256.out⟩
                     have n5_ : Aside0 (Below w.heap.size w (w89.setCell ⟨go76, (((rd_T27 t225 x21_3).f3) : Int).toNat, none⟩ (.int .i64 (wrap64 ((rd x7_3 ((rd_T27 t225 x21_3).f3)) - ((rd_T27 t225 x21_3).f4)))))) := ⟨by repeat (first | (with_reducible first | exact HB.out | apply below_alloc | apply pw_below_drewN | apply below_drew1 | refine below_set ?_ GB76.out | refine below_set ?_ GE229.out | refine below_set ?_ GE256.out) | exact HB.out)⟩
                     (try clear HO_7)
                     (try clear HO_15)
                     (try clear HO_230001)
                     (try clear BK229)
                     (try clear BK256)
                     (try clear HB)
                     generalize (w89.setCell ⟨go76, (((rd_T27 t225 x21_3).f3) : Int).toNat, none⟩ (.int .i64 (wrap64 ((rd x7_3 ((rd_T27 t225 x21_3).f3)) - ((rd_T27 t225 x21_3).f4))))) = w92 at n0_ n1_ n2_ n3_ n4_ n5_ ⊢
                     have HO_7 := n0_
                     have HO_15 := n1_
                     have HO_230001 := n2_
                     have BK229 := n3_
                     have BK256 := n4_
                     have HB := n5_
                     clear n0_ n1_ n2_ n3_ n4_ n5_
                     have n0_ := Aside0.mk (Kd.R_drew HO_7.out)
                     have n1_ := Aside0.mk (Kd.R_drew HO_15.out)
                     have n2_ := Aside0.mk (Kd.R_drew HO_230001.out)
                     have n3_ := Aside0.mk (blk_drew BK229.out)
                     have n4_ := Aside0.mk (blk_drew BK256.out)
                     have n5_ := Aside0.mk (below_drew1 HB.out)
                     clear HO_7
                     clear HO_15
                     clear HO_230001
                     clear BK229
                     clear BK256
                     clear HB
                     have HO_7 := n0_
                     have HO_15 := n1_
                     have HO_230001 := n2_
                     have BK229 := n3_
                     have BK256 := n4_
                     have HB := n5_
                     clear n0_ n1_ n2_ n3_ n4_ n5_
                     have p259 : 0 ≤ (((rd_T27 t225 x21_3).f2) : Int) := of_decide_eq_true (by first | (with_reducible assumption) | assumption)
                     have q259 : ((rd_T27 t225 x21_3).f2) < (y258.length : Int) := (by have h_ : (((rd_T27 t225 x21_3).f2) : Int) < ((x7_3.length : Int) : Int) := of_decide_eq_true (by first | (with_reducible assumption) | assumption); first | (have e_ := (Kd.R_reads' HO_7.out).1; omega) | simpa only [Ny258.out, List.length_set] using h_)
                     have ql259 : ((((rd_T27 t225 x21_3).f2) : Int) < ((x7_3.length : Int) : Int)) = True := eq_true (of_decide_eq_true (by first | (with_reducible assumption) | assumption))
                     obtain ⟨ad259, e259, hx259_0⟩ := Kd.at_int (Kd.R_reads' HO_7.out).2.2 ((rd_T27 t225 x21_3).f2) p259 q259
                     obtain rfl : (⟨go76, 0, none⟩ : Addr) = ad259 := (by injection e259)
                     (first | simp only [add_plain] at hx259_0 | simp only [add_at] at hx259_0 | simp only [Addr.add, Nat.zero_add] at hx259_0 | skip)
                     replace p259 := eq_true p259
                     replace q259 := eq_true q259
                     have p79 : 0 ≤ (((rd_T27 t225 x21_3).f2) : Int) := of_decide_eq_true (by first | (with_reducible assumption) | assumption)
                     have q79 : (((rd_T27 t225 x21_3).f2) : Int) < ((x7_3.length : Int) : Int) := of_decide_eq_true (by first | (with_reducible assumption) | assumption)
                     obtain ⟨hx79_0, hf79_0⟩ := Kd.R_celln 0 HO_7.out (((rd_T27 t225 x21_3).f2) : Int) p79 q79
                     replace p79 := eq_true p79
                     replace q79 := eq_true q79
                     have HP94 := Kd.R_putn HO_7.out (((rd_T27 t225 x21_3).f2) : Int) (wrap64 ((rd y258 ((rd_T27 t225 x21_3).f2)) + ((rd_T27 t225 x21_3).f4)))
                     rw [← Ny260.out] at HP94
                     have HQ94 := Aside0.mk HP94
                     clear HP94
                     refine start_ (n := 13) (S := fun w' => w'.cell? ⟨gb256, 0, none⟩ = some (.int .i64 ((rd_T27 t225 x21_3).f0)) ∧ w'.cell? ⟨gb256, 1, none⟩ = some (.int .i64 ((rd_T27 t225 x21_3).f1)) ∧ w'.cell? ⟨gb256, 2, none⟩ = some (.int .i64 ((rd_T27 t225 x21_3).f2)) ∧ w'.cell? ⟨gb256, 3, none⟩ = some (.int .i64 ((rd_T27 t225 x21_3).f3)) ∧ w'.cell? ⟨gb256, 4, none⟩ = some (.int .i64 ((rd_T27 t225 x21_3).f4)) ∧ w'.cell? ⟨gb256, 5, none⟩ = some (.int .i64 ((rd_T27 t225 x21_3).f5)) ∧ w'.cell? ⟨gb256, 6, none⟩ = some (.int .i64 ((rd_T27 t225 x21_3).f6)) ∧ w'.cell? ⟨go76, (((rd_T27 t225 x21_3).f2)).toNat, none⟩ = some (.int .i64 (rd y258 ((rd_T27 t225 x21_3).f2)))) (ds := [12]) #[false, false, false, false, false, false, false, false, false, false, false, false, false] (by kernel_rfl) rfl rfl ⟨(blk_cell BK256.out 0).trans rfl, (blk_cell BK256.out 1).trans rfl, (blk_cell BK256.out 2).trans rfl, (blk_cell BK256.out 3).trans rfl, (blk_cell BK256.out 4).trans rfl, (blk_cell BK256.out 5).trans rfl, (blk_cell BK256.out 6).trans rfl, hx259_0⟩ (fun hHeld => ?_); refine with_tabW airchecklaw24_BookSums.tab41 airchecklaw24_BookSums.bits41 (fun HT_ HW_ => ?_)
                     generalize w92.drew = w93 at HO_7 HO_15 HO_230001 BK229 BK256 HB HQ91 HQ94 hf79_0 hx259_0 hx79_0 hHeld ⊢
                     refine pure_ (i := 0) (N := some 164) (v := ?_) (a' := ?_) #[true, false, false, false, false, false, false, false, false, false, false, false, false] rfl rfl (any_of HT_.out (by kernel_rfl)) (fun _ _ _ h => h) (Or.inl ⟨by rfl, ?_⟩) ?_ ?_
                     rotate_left
                     ·intro w'
                      go_simp
                      with_reducible rfl
                     rotate_left
                     ·simp only [Act.put, List.setIfInBounds_toArray, List.set_cons_zero, List.set_cons_succ, i64_w, i32_w]
                      rfl
                     refine pure_ (i := 1) (N := some 165) (v := ?_) (a' := ?_) #[true, true, false, false, false, false, false, false, false, false, false, false, false] rfl rfl (any_of HT_.out (by kernel_rfl)) (fun _ _ _ h => h) (Or.inl ⟨by rfl, ?_⟩) ?_ ?_
                     rotate_left
                     ·intro w'
                      go_simp
                      with_reducible rfl
                     rotate_left
                     ·simp only [Act.put, List.setIfInBounds_toArray, List.set_cons_zero, List.set_cons_succ, i64_w, i32_w]
                      rfl
                     refine pure_ (i := 3) (N := some 167) (v := ?_) (a' := ?_) #[true, true, false, true, false, false, false, false, false, false, false, false, false] rfl rfl (any_of HT_.out (by kernel_rfl)) (fun _ _ _ h => h) (Or.inl ⟨by rfl, ?_⟩) ?_ ?_
                     rotate_left
                     ·intro w'
                      go_simp
                      with_reducible rfl
                     rotate_left
                     ·simp only [Act.put, List.setIfInBounds_toArray, List.set_cons_zero, List.set_cons_succ, i64_w, i32_w]
                      rfl
                     refine pure_ (i := 4) (N := some 168) (v := ?_) (a' := ?_) #[true, true, false, true, true, false, false, false, false, false, false, false, false] rfl rfl (any_of HT_.out (by kernel_rfl)) (fun _ _ _ h => h) (Or.inl ⟨by rfl, ?_⟩) ?_ ?_
                     rotate_left
                     ·intro w'
                      go_simp
                      with_reducible rfl
                     rotate_left
                     ·simp only [Act.put, List.setIfInBounds_toArray, List.set_cons_zero, List.set_cons_succ, i64_w, i32_w]
                      rfl
                     refine pure_ (i := 8) (N := some 172) (v := ?_) (a' := ?_) #[true, true, false, true, true, false, false, false, true, false, false, false, false] rfl rfl (any_of HT_.out (by kernel_rfl)) (fun _ _ _ h => h) (Or.inl ⟨by rfl, ?_⟩) ?_ ?_
                     rotate_left
                     ·intro w'
                      go_simp
                      with_reducible rfl
                     rotate_left
                     ·simp only [Act.put, List.setIfInBounds_toArray, List.set_cons_zero, List.set_cons_succ, i64_w, i32_w]
                      rfl
                     refine take_ (i := 2) (N := some 166) (v := ?_) (a' := ?_) #[true, true, true, true, true, false, false, false, true, false, false, false, false] rfl rfl (take_ofW HT_.out HW_.out (by kernel_rfl)) (fun _ _ _ h => h) (Or.inl ⟨by rfl, ?_⟩) hHeld ?_ ?_
                     rotate_left
                     ·rintro w' ⟨s0, s1, s2, s3, s4, s5, s6, s7⟩
                      go_simp
                      with_reducible rfl
                     rotate_left
                     ·simp only [Act.put, List.setIfInBounds_toArray, List.set_cons_zero, List.set_cons_succ, i64_w, i32_w]
                      rfl
                     refine take_ (i := 5) (N := some 169) (v := ?_) (a' := ?_) #[true, true, true, true, true, true, false, false, true, false, false, false, false] rfl rfl (take_ofW HT_.out HW_.out (by kernel_rfl)) (fun _ _ _ h => h) (Or.inl ⟨by rfl, ?_⟩) hHeld ?_ ?_
                     rotate_left
                     ·rintro w' ⟨s0, s1, s2, s3, s4, s5, s6, s7⟩
                      go_simp
                      with_reducible rfl
                     rotate_left
                     ·simp only [Act.put, List.setIfInBounds_toArray, List.set_cons_zero, List.set_cons_succ, i64_w, i32_w]
                      rfl
                     refine pure_ (i := 6) (N := some 170) (v := ?_) (a' := ?_) #[true, true, true, true, true, true, true, false, true, false, false, false, false] rfl rfl (any_of HT_.out (by kernel_rfl)) (fun _ _ _ h => h) (Or.inl ⟨by rfl, ?_⟩) ?_ ?_
                     rotate_left
                     ·intro w'
                      go_simp
                      with_reducible rfl
                     rotate_left
                     ·simp only [Act.put, List.setIfInBounds_toArray, List.set_cons_zero, List.set_cons_succ, i64_w, i32_w]
                      rfl
                     refine take_ (i := 7) (N := some 171) (v := ?_) (a' := ?_) #[true, true, true, true, true, true, true, true, true, false, false, false, false] rfl rfl (take_ofW HT_.out HW_.out (by kernel_rfl)) (fun _ _ _ h => h) (Or.inl ⟨by rfl, ?_⟩) hHeld ?_ ?_
                     rotate_left
                     ·rintro w' ⟨s0, s1, s2, s3, s4, s5, s6, s7⟩
                      go_simp
                      with_reducible rfl
                     rotate_left
                     ·simp only [Act.put, List.setIfInBounds_toArray, List.set_cons_zero, List.set_cons_succ, i64_w, i32_w]
                      rfl
                     refine take_ (i := 9) (N := some 173) (v := ?_) (a' := ?_) #[true, true, true, true, true, true, true, true, true, true, false, false, false] rfl rfl (take_ofW HT_.out HW_.out (by kernel_rfl)) (fun _ _ _ h => h) (Or.inl ⟨by rfl, ?_⟩) hHeld ?_ ?_
                     rotate_left
                     ·rintro w' ⟨s0, s1, s2, s3, s4, s5, s6, s7⟩
                      go_simp
                      with_reducible rfl
                     rotate_left
                     ·simp only [Act.put, List.setIfInBounds_toArray, List.set_cons_zero, List.set_cons_succ, i64_w, i32_w]
                      rfl
                     refine pure_ (i := 10) (N := some 174) (v := ?_) (a' := ?_) #[true, true, true, true, true, true, true, true, true, true, true, false, false] rfl rfl (any_of HT_.out (by kernel_rfl)) (fun _ _ _ h => h) (Or.inl ⟨by rfl, ?_⟩) ?_ ?_
                     rotate_left
                     ·intro w'
                      go_simp
                      with_reducible rfl
                     rotate_left
                     ·simp only [Act.put, List.setIfInBounds_toArray, List.set_cons_zero, List.set_cons_succ, i64_w, i32_w]
                      rfl
                     refine pure_ (i := 11) (N := some 175) (v := ?_) (a' := ?_) #[true, true, true, true, true, true, true, true, true, true, true, true, false] rfl rfl (any_of HT_.out (by kernel_rfl)) (fun _ _ _ h => h) (Or.inl ⟨by rfl, ?_⟩) ?_ ?_
                     rotate_left
                     ·intro w'
                      go_simp
                      with_reducible rfl
                     rotate_left
                     ·simp only [Act.put, List.setIfInBounds_toArray, List.set_cons_zero, List.set_cons_succ, i64_w, i32_w]
                      rfl
                     refine last_ (i := 12) (N := none) #[true, true, true, true, true, true, true, true, true, true, true, true, true] rfl rfl (one_of HT_.out (by kernel_rfl)) (by decide) (fun K hK => ?_)
                     refine skip_ (w1 := ?_) (by rfl) rfl ?_ ?_
                     rotate_left
                     ·go_simp
                      rfl
                     refine hK.out _ _ ?_
                     clear hK K
                     refine done_ (done_of HT_.out (by kernel_rfl)) ?_
                     try go_wp2
                     obtain ⟨clb76, HGb76⟩ := Kd.R_typed HO_7.out go76 rfl
                     have GG76 := Aside0.mk HGb76
                     have n0_ : Aside0 (Kd.R (Kd.int .i64) 3 (w93.setCell ⟨go76, (((rd_T27 t225 x21_3).f2) : Int).toNat, none⟩ (.int .i64 (wrap64 ((rd y258 ((rd_T27 t225 x21_3).f2)) + ((rd_T27 t225 x21_3).f4))))) w.heap.size (fun k_ => some k_ ≠ (v245 : Value).ownBlock) (.slice (some ⟨go76, 0, none⟩) x7_3.length co90) y260) := ⟨by (with_reducible repeat (first | apply Kd.R_alloc | apply Kd.R_drewN | apply Kd.R_drew)); exact HQ94.out⟩
                     have n1_ : Aside0 (Kd.R (Kd.int .i64) 3 (w93.setCell ⟨go76, (((rd_T27 t225 x21_3).f2) : Int).toNat, none⟩ (.int .i64 (wrap64 ((rd y258 ((rd_T27 t225 x21_3).f2)) + ((rd_T27 t225 x21_3).f4))))) w.heap.size (fun k_ => some k_ ≠ (.slice (some ⟨go76, 0, none⟩) x7_3.length co90 : Value).ownBlock) v245 x15_3) := ⟨by (with_reducible repeat (first | apply Kd.R_alloc | apply Kd.R_drewN | apply Kd.R_drew)); exact Kd.R_mono (Kd.R_far (p := ⟨go76, (((rd_T27 t225 x21_3).f2) : Int).toNat, none⟩) (Kd.R_mono HO_15.out (fun k_ hk => (⟨hk, fun e_ => hk (by rw [e_]; rfl)⟩ : _ ∧ k_ ≠ go76))) (fun _ hk => hk.2) (.int .i64 (wrap64 ((rd y258 ((rd_T27 t225 x21_3).f2)) + ((rd_T27 t225 x21_3).f4))))) (fun _ hk => hk.1)⟩
                     have n2_ : Aside0 (Kd.R k27 27 (w93.setCell ⟨go76, (((rd_T27 t225 x21_3).f2) : Int).toNat, none⟩ (.int .i64 (wrap64 ((rd y258 ((rd_T27 t225 x21_3).f2)) + ((rd_T27 t225 x21_3).f4))))) w.heap.size (fun k_ => k_ ≠ gb256) (.slice (some ad255) t225.length co11) t225) := ⟨by (with_reducible repeat (first | apply Kd.R_alloc | apply Kd.R_drewN | apply Kd.R_drew)); exact Kd.R_mono (Kd.R_far (p := ⟨go76, (((rd_T27 t225 x21_3).f2) : Int).toNat, none⟩) (Kd.R_types HO_230001.out GG76.out (by decide)) (fun _ hk => hk.2) (.int .i64 (wrap64 ((rd y258 ((rd_T27 t225 x21_3).f2)) + ((rd_T27 t225 x21_3).f4))))) (fun _ hk => hk.1)⟩
                     have n3_ : Aside0 ((w93.setCell ⟨go76, (((rd_T27 t225 x21_3).f2) : Int).toNat, none⟩ (.int .i64 (wrap64 ((rd y258 ((rd_T27 t225 x21_3).f2)) + ((rd_T27 t225 x21_3).f4))))).heap[gb229]? = some (.cells #[.int .i64 t224, .slice (some ad255) t225.length co11, .int .i64 t228] 24 (0, 0))) := ⟨by (with_reducible repeat (first | refine blk_drewN ?_ _ | refine blk_drew ?_ | refine blk_alloc ?_ _)); refine blk_far ?_ (by have h_ := Kd.R_ne HO_7.out BK229.out (by decide); intro e_; exact h_ (by rw [e_]; rfl)) _; (with_reducible repeat (first | refine blk_drewN ?_ _ | refine blk_drew ?_ | refine blk_alloc ?_ _)); exact BK229.out⟩
                     have n4_ : Aside0 ((w93.setCell ⟨go76, (((rd_T27 t225 x21_3).f2) : Int).toNat, none⟩ (.int .i64 (wrap64 ((rd y258 ((rd_T27 t225 x21_3).f2)) + ((rd_T27 t225 x21_3).f4))))).heap[gb256]? = some (.cells #[.int .i64 ((rd_T27 t225 x21_3).f0), .int .i64 ((rd_T27 t225 x21_3).f1), .int .i64 ((rd_T27 t225 x21_3).f2), .int .i64 ((rd_T27 t225 x21_3).f3), .int .i64 ((rd_T27 t225 x21_3).f4), .int .i64 ((rd_T27 t225 x21_3).f5), .int .i64 ((rd_T27 t225 x21_3).f6)] 27 (0, 0))) := ⟨by (with_reducible repeat (first | refine blk_drewN ?_ _ | refine blk_drew ?_ | refine blk_alloc ?_ _)); refine blk_far ?_ (by have h_ := Kd.R_ne HO_7.out BK256.out (by decide); intro e_; exact h_ (by rw [e_]; rfl)) _; (with_reducible repeat (first | refine blk_drewN ?_ _ | refine blk_drew ?_ | refine blk_alloc ?_ _)); exact BK256.out⟩
                     have n5_ : Aside0 (Below w.heap.size w (w93.setCell ⟨go76, (((rd_T27 t225 x21_3).f2) : Int).toNat, none⟩ (.int .i64 (wrap64 ((rd y258 ((rd_T27 t225 x21_3).f2)) + ((rd_T27 t225 x21_3).f4)))))) := ⟨by repeat (first | (with_reducible first | exact HB.out | apply below_alloc | apply pw_below_drewN | apply below_drew1 | refine below_set ?_ GB76.out | refine below_set ?_ GE229.out | refine below_set ?_ GE256.out) | exact HB.out)⟩
                     (try clear HO_7)
                     (try clear HO_15)
                     (try clear HO_230001)
                     (try clear BK229)
                     (try clear BK256)
                     (try clear HB)
                     generalize (w93.setCell ⟨go76, (((rd_T27 t225 x21_3).f2) : Int).toNat, none⟩ (.int .i64 (wrap64 ((rd y258 ((rd_T27 t225 x21_3).f2)) + ((rd_T27 t225 x21_3).f4))))) = w95 at n0_ n1_ n2_ n3_ n4_ n5_ ⊢
                     have HO_7 := n0_
                     have HO_15 := n1_
                     have HO_230001 := n2_
                     have BK229 := n3_
                     have BK256 := n4_
                     have HB := n5_
                     clear n0_ n1_ n2_ n3_ n4_ n5_
                     have n0_ := Aside0.mk (Kd.R_drew HO_7.out)
                     have n1_ := Aside0.mk (Kd.R_drew HO_15.out)
                     have n2_ := Aside0.mk (Kd.R_drew HO_230001.out)
                     have n3_ := Aside0.mk (blk_drew BK229.out)
                     have n4_ := Aside0.mk (blk_drew BK256.out)
                     have n5_ := Aside0.mk (below_drew1 HB.out)
                     clear HO_7
                     clear HO_15
                     clear HO_230001
                     clear BK229
                     clear BK256
                     clear HB
                     have HO_7 := n0_
                     have HO_15 := n1_
                     have HO_230001 := n2_
                     have BK229 := n3_
                     have BK256 := n4_
                     have HB := n5_
                     clear n0_ n1_ n2_ n3_ n4_ n5_
                     obtain ⟨Ao97, co97, eo97⟩ := Kd.R_slice HO_15.out
                     (first | subst eo97 | (injection eo97 with f1_ f2_ f3_; have f4_ := f1_.symm; have f5_ := f3_.symm; clear f1_ f2_ f3_; subst f4_; subst f5_))
                     have p261 : 0 ≤ (((rd_T27 t225 x21_3).f3) : Int) := of_decide_eq_true (by first | (with_reducible assumption) | assumption)
                     have q261 : ((rd_T27 t225 x21_3).f3) < (x15_3.length : Int) := of_decide_eq_true (by first | (with_reducible assumption) | assumption)
                     obtain ⟨ad261, e261, hx261_0⟩ := Kd.at_int (Kd.R_reads' HO_15.out).2.2 ((rd_T27 t225 x21_3).f3) p261 q261
                     cases e261
                     replace p261 := eq_true p261
                     replace q261 := eq_true q261
                     have p81 : 0 ≤ (((rd_T27 t225 x21_3).f3) : Int) := of_decide_eq_true (by first | (with_reducible assumption) | assumption)
                     have q81 : (((rd_T27 t225 x21_3).f3) : Int) < ((x15_3.length : Int) : Int) := of_decide_eq_true (by first | (with_reducible assumption) | assumption)
                     obtain ⟨go81, co81, eo81, gb81, gl81, cl81, HG81⟩ := Kd.R_form HO_15.out (by omega)
                     (first | cases eo81 | (injection eo81 with ea_ en_ ec_; (first | subst ea_ | (injection ea_ with ea_; subst ea_)); subst ec_; clear en_))
                     have GB81 := Aside0.mk gb81
                     have GG81 := Aside0.mk HG81
                     clear gb81 gl81 HG81
                     (first | simp only [add_plain] at hx261_0 | skip)
                     obtain ⟨hx81_0, hf81_0⟩ := Kd.R_celln 0 HO_15.out (((rd_T27 t225 x21_3).f3) : Int) p81 q81
                     replace p81 := eq_true p81
                     replace q81 := eq_true q81
                     have HP98 := Kd.R_putn HO_15.out (((rd_T27 t225 x21_3).f3) : Int) (wrap64 ((rd x15_3 ((rd_T27 t225 x21_3).f3)) - ((rd_T27 t225 x21_3).f4)))
                     rw [← Ny262.out] at HP98
                     have HQ98 := Aside0.mk HP98
                     clear HP98
                     refine start_ (n := 13) (S := fun w' => w'.cell? ⟨gb256, 0, none⟩ = some (.int .i64 ((rd_T27 t225 x21_3).f0)) ∧ w'.cell? ⟨gb256, 1, none⟩ = some (.int .i64 ((rd_T27 t225 x21_3).f1)) ∧ w'.cell? ⟨gb256, 2, none⟩ = some (.int .i64 ((rd_T27 t225 x21_3).f2)) ∧ w'.cell? ⟨gb256, 3, none⟩ = some (.int .i64 ((rd_T27 t225 x21_3).f3)) ∧ w'.cell? ⟨gb256, 4, none⟩ = some (.int .i64 ((rd_T27 t225 x21_3).f4)) ∧ w'.cell? ⟨gb256, 5, none⟩ = some (.int .i64 ((rd_T27 t225 x21_3).f5)) ∧ w'.cell? ⟨gb256, 6, none⟩ = some (.int .i64 ((rd_T27 t225 x21_3).f6)) ∧ w'.cell? (⟨go81, ((((rd_T27 t225 x21_3).f3)) : Int).toNat, none⟩) = some (.int .i64 (rd x15_3 ((rd_T27 t225 x21_3).f3)))) (ds := [12]) #[false, false, false, false, false, false, false, false, false, false, false, false, false] (by kernel_rfl) rfl rfl ⟨(blk_cell BK256.out 0).trans rfl, (blk_cell BK256.out 1).trans rfl, (blk_cell BK256.out 2).trans rfl, (blk_cell BK256.out 3).trans rfl, (blk_cell BK256.out 4).trans rfl, (blk_cell BK256.out 5).trans rfl, (blk_cell BK256.out 6).trans rfl, hx261_0⟩ (fun hHeld => ?_); refine with_tabW airchecklaw24_BookSums.tab42 airchecklaw24_BookSums.bits42 (fun HT_ HW_ => ?_)
                     generalize w95.drew = w96 at HO_7 HO_15 HO_230001 BK229 BK256 HB GG81 HQ94 HQ98 hf81_0 hx261_0 hx81_0 hHeld ⊢
                     refine pure_ (i := 0) (N := some 176) (v := ?_) (a' := ?_) #[true, false, false, false, false, false, false, false, false, false, false, false, false] rfl rfl (any_of HT_.out (by kernel_rfl)) (fun _ _ _ h => h) (Or.inl ⟨by rfl, ?_⟩) ?_ ?_
                     rotate_left
                     ·intro w'
                      go_simp
                      with_reducible rfl
                     rotate_left
                     ·simp only [Act.put, List.setIfInBounds_toArray, List.set_cons_zero, List.set_cons_succ, i64_w, i32_w]
                      rfl
                     refine pure_ (i := 1) (N := some 177) (v := ?_) (a' := ?_) #[true, true, false, false, false, false, false, false, false, false, false, false, false] rfl rfl (any_of HT_.out (by kernel_rfl)) (fun _ _ _ h => h) (Or.inl ⟨by rfl, ?_⟩) ?_ ?_
                     rotate_left
                     ·intro w'
                      go_simp
                      with_reducible rfl
                     rotate_left
                     ·simp only [Act.put, List.setIfInBounds_toArray, List.set_cons_zero, List.set_cons_succ, i64_w, i32_w]
                      rfl
                     refine pure_ (i := 3) (N := some 179) (v := ?_) (a' := ?_) #[true, true, false, true, false, false, false, false, false, false, false, false, false] rfl rfl (any_of HT_.out (by kernel_rfl)) (fun _ _ _ h => h) (Or.inl ⟨by rfl, ?_⟩) ?_ ?_
                     rotate_left
                     ·intro w'
                      go_simp
                      with_reducible rfl
                     rotate_left
                     ·simp only [Act.put, List.setIfInBounds_toArray, List.set_cons_zero, List.set_cons_succ, i64_w, i32_w]
                      rfl
                     refine pure_ (i := 4) (N := some 180) (v := ?_) (a' := ?_) #[true, true, false, true, true, false, false, false, false, false, false, false, false] rfl rfl (any_of HT_.out (by kernel_rfl)) (fun _ _ _ h => h) (Or.inl ⟨by rfl, ?_⟩) ?_ ?_
                     rotate_left
                     ·intro w'
                      go_simp
                      with_reducible rfl
                     rotate_left
                     ·simp only [Act.put, List.setIfInBounds_toArray, List.set_cons_zero, List.set_cons_succ, i64_w, i32_w]
                      rfl
                     refine pure_ (i := 8) (N := some 184) (v := ?_) (a' := ?_) #[true, true, false, true, true, false, false, false, true, false, false, false, false] rfl rfl (any_of HT_.out (by kernel_rfl)) (fun _ _ _ h => h) (Or.inl ⟨by rfl, ?_⟩) ?_ ?_
                     rotate_left
                     ·intro w'
                      go_simp
                      with_reducible rfl
                     rotate_left
                     ·simp only [Act.put, List.setIfInBounds_toArray, List.set_cons_zero, List.set_cons_succ, i64_w, i32_w]
                      rfl
                     refine take_ (i := 2) (N := some 178) (v := ?_) (a' := ?_) #[true, true, true, true, true, false, false, false, true, false, false, false, false] rfl rfl (take_ofW HT_.out HW_.out (by kernel_rfl)) (fun _ _ _ h => h) (Or.inl ⟨by rfl, ?_⟩) hHeld ?_ ?_
                     rotate_left
                     ·rintro w' ⟨s0, s1, s2, s3, s4, s5, s6, s7⟩
                      go_simp
                      with_reducible rfl
                     rotate_left
                     ·simp only [Act.put, List.setIfInBounds_toArray, List.set_cons_zero, List.set_cons_succ, i64_w, i32_w]
                      rfl
                     refine take_ (i := 5) (N := some 181) (v := ?_) (a' := ?_) #[true, true, true, true, true, true, false, false, true, false, false, false, false] rfl rfl (take_ofW HT_.out HW_.out (by kernel_rfl)) (fun _ _ _ h => h) (Or.inl ⟨by rfl, ?_⟩) hHeld ?_ ?_
                     rotate_left
                     ·rintro w' ⟨s0, s1, s2, s3, s4, s5, s6, s7⟩
                      go_simp
                      with_reducible rfl
                     rotate_left
                     ·simp only [Act.put, List.setIfInBounds_toArray, List.set_cons_zero, List.set_cons_succ, i64_w, i32_w]
                      rfl
                     refine pure_ (i := 6) (N := some 182) (v := ?_) (a' := ?_) #[true, true, true, true, true, true, true, false, true, false, false, false, false] rfl rfl (any_of HT_.out (by kernel_rfl)) (fun _ _ _ h => h) (Or.inl ⟨by rfl, ?_⟩) ?_ ?_
                     rotate_left
                     ·intro w'
                      go_simp
                      with_reducible rfl
                     rotate_left
                     ·simp only [Act.put, List.setIfInBounds_toArray, List.set_cons_zero, List.set_cons_succ, i64_w, i32_w]
                      rfl
                     refine take_ (i := 7) (N := some 183) (v := ?_) (a' := ?_) #[true, true, true, true, true, true, true, true, true, false, false, false, false] rfl rfl (take_ofW HT_.out HW_.out (by kernel_rfl)) (fun _ _ _ h => h) (Or.inl ⟨by rfl, ?_⟩) hHeld ?_ ?_
                     rotate_left
                     ·rintro w' ⟨s0, s1, s2, s3, s4, s5, s6, s7⟩
                      go_simp
                      with_reducible rfl
                     rotate_left
                     ·simp only [Act.put, List.setIfInBounds_toArray, List.set_cons_zero, List.set_cons_succ, i64_w, i32_w]
                      rfl
                     refine take_ (i := 9) (N := some 185) (v := ?_) (a' := ?_) #[true, true, true, true, true, true, true, true, true, true, false, false, false] rfl rfl (take_ofW HT_.out HW_.out (by kernel_rfl)) (fun _ _ _ h => h) (Or.inl ⟨by rfl, ?_⟩) hHeld ?_ ?_
                     rotate_left
                     ·rintro w' ⟨s0, s1, s2, s3, s4, s5, s6, s7⟩
                      go_simp
                      with_reducible rfl
                     rotate_left
                     ·simp only [Act.put, List.setIfInBounds_toArray, List.set_cons_zero, List.set_cons_succ, i64_w, i32_w]
                      rfl
                     refine pure_ (i := 10) (N := some 186) (v := ?_) (a' := ?_) #[true, true, true, true, true, true, true, true, true, true, true, false, false] rfl rfl (any_of HT_.out (by kernel_rfl)) (fun _ _ _ h => h) (Or.inl ⟨by rfl, ?_⟩) ?_ ?_
                     rotate_left
                     ·intro w'
                      go_simp
                      with_reducible rfl
                     rotate_left
                     ·simp only [Act.put, List.setIfInBounds_toArray, List.set_cons_zero, List.set_cons_succ, i64_w, i32_w]
                      rfl
                     refine pure_ (i := 11) (N := some 187) (v := ?_) (a' := ?_) #[true, true, true, true, true, true, true, true, true, true, true, true, false] rfl rfl (any_of HT_.out (by kernel_rfl)) (fun _ _ _ h => h) (Or.inl ⟨by rfl, ?_⟩) ?_ ?_
                     rotate_left
                     ·intro w'
                      go_simp
                      with_reducible rfl
                     rotate_left
                     ·simp only [Act.put, List.setIfInBounds_toArray, List.set_cons_zero, List.set_cons_succ, i64_w, i32_w]
                      rfl
                     refine last_ (i := 12) (N := none) #[true, true, true, true, true, true, true, true, true, true, true, true, true] rfl rfl (one_of HT_.out (by kernel_rfl)) (by decide) (fun K hK => ?_)
                     refine skip_ (w1 := ?_) (by rfl) rfl ?_ ?_
                     rotate_left
                     ·go_simp
                      rfl
                     refine hK.out _ _ ?_
                     clear hK K
                     refine done_ (done_of HT_.out (by kernel_rfl)) ?_
                     try go_wp2
                     have n0_ : Aside0 (Kd.R (Kd.int .i64) 3 (w96.setCell ⟨go81, (((rd_T27 t225 x21_3).f3) : Int).toNat, none⟩ (.int .i64 (wrap64 ((rd x15_3 ((rd_T27 t225 x21_3).f3)) - ((rd_T27 t225 x21_3).f4))))) w.heap.size (fun k_ => some k_ ≠ (.slice (some ⟨go81, 0, none⟩) x15_3.length co97 : Value).ownBlock) (.slice (some ⟨go76, 0, none⟩) x7_3.length co90) y260) := ⟨by (with_reducible repeat (first | apply Kd.R_alloc | apply Kd.R_drewN | apply Kd.R_drew)); exact Kd.R_mono (Kd.R_far (p := ⟨go81, (((rd_T27 t225 x21_3).f3) : Int).toNat, none⟩) (Kd.R_mono HO_7.out (fun k_ hk => (⟨hk, fun e_ => hk (by rw [e_]; rfl)⟩ : _ ∧ k_ ≠ go81))) (fun _ hk => hk.2) (.int .i64 (wrap64 ((rd x15_3 ((rd_T27 t225 x21_3).f3)) - ((rd_T27 t225 x21_3).f4))))) (fun _ hk => hk.1)⟩
                     have n1_ : Aside0 (Kd.R (Kd.int .i64) 3 (w96.setCell ⟨go81, (((rd_T27 t225 x21_3).f3) : Int).toNat, none⟩ (.int .i64 (wrap64 ((rd x15_3 ((rd_T27 t225 x21_3).f3)) - ((rd_T27 t225 x21_3).f4))))) w.heap.size (fun k_ => some k_ ≠ (.slice (some ⟨go76, 0, none⟩) x7_3.length co90 : Value).ownBlock) (.slice (some ⟨go81, 0, none⟩) x15_3.length co97) y262) := ⟨by (with_reducible repeat (first | apply Kd.R_alloc | apply Kd.R_drewN | apply Kd.R_drew)); exact HQ98.out⟩
                     have n2_ : Aside0 (Kd.R k27 27 (w96.setCell ⟨go81, (((rd_T27 t225 x21_3).f3) : Int).toNat, none⟩ (.int .i64 (wrap64 ((rd x15_3 ((rd_T27 t225 x21_3).f3)) - ((rd_T27 t225 x21_3).f4))))) w.heap.size (fun k_ => k_ ≠ gb256) (.slice (some ad255) t225.length co11) t225) := ⟨by (with_reducible repeat (first | apply Kd.R_alloc | apply Kd.R_drewN | apply Kd.R_drew)); exact Kd.R_mono (Kd.R_far (p := ⟨go81, (((rd_T27 t225 x21_3).f3) : Int).toNat, none⟩) (Kd.R_types HO_230001.out GG81.out (by decide)) (fun _ hk => hk.2) (.int .i64 (wrap64 ((rd x15_3 ((rd_T27 t225 x21_3).f3)) - ((rd_T27 t225 x21_3).f4))))) (fun _ hk => hk.1)⟩
                     have n3_ : Aside0 ((w96.setCell ⟨go81, (((rd_T27 t225 x21_3).f3) : Int).toNat, none⟩ (.int .i64 (wrap64 ((rd x15_3 ((rd_T27 t225 x21_3).f3)) - ((rd_T27 t225 x21_3).f4))))).heap[gb229]? = some (.cells #[.int .i64 t224, .slice (some ad255) t225.length co11, .int .i64 t228] 24 (0, 0))) := ⟨by (with_reducible repeat (first | refine blk_drewN ?_ _ | refine blk_drew ?_ | refine blk_alloc ?_ _)); refine blk_far ?_ (by have h_ := Kd.R_ne HO_15.out BK229.out (by decide); intro e_; exact h_ (by rw [e_]; rfl)) _; (with_reducible repeat (first | refine blk_drewN ?_ _ | refine blk_drew ?_ | refine blk_alloc ?_ _)); exact BK229.out⟩
                     have n4_ : Aside0 ((w96.setCell ⟨go81, (((rd_T27 t225 x21_3).f3) : Int).toNat, none⟩ (.int .i64 (wrap64 ((rd x15_3 ((rd_T27 t225 x21_3).f3)) - ((rd_T27 t225 x21_3).f4))))).heap[gb256]? = some (.cells #[.int .i64 ((rd_T27 t225 x21_3).f0), .int .i64 ((rd_T27 t225 x21_3).f1), .int .i64 ((rd_T27 t225 x21_3).f2), .int .i64 ((rd_T27 t225 x21_3).f3), .int .i64 ((rd_T27 t225 x21_3).f4), .int .i64 ((rd_T27 t225 x21_3).f5), .int .i64 ((rd_T27 t225 x21_3).f6)] 27 (0, 0))) := ⟨by (with_reducible repeat (first | refine blk_drewN ?_ _ | refine blk_drew ?_ | refine blk_alloc ?_ _)); refine blk_far ?_ (by have h_ := Kd.R_ne HO_15.out BK256.out (by decide); intro e_; exact h_ (by rw [e_]; rfl)) _; (with_reducible repeat (first | refine blk_drewN ?_ _ | refine blk_drew ?_ | refine blk_alloc ?_ _)); exact BK256.out⟩
                     have n5_ : Aside0 (Below w.heap.size w (w96.setCell ⟨go81, (((rd_T27 t225 x21_3).f3) : Int).toNat, none⟩ (.int .i64 (wrap64 ((rd x15_3 ((rd_T27 t225 x21_3).f3)) - ((rd_T27 t225 x21_3).f4)))))) := ⟨by repeat (first | (with_reducible first | exact HB.out | apply below_alloc | apply pw_below_drewN | apply below_drew1 | refine below_set ?_ GB81.out | refine below_set ?_ GE229.out | refine below_set ?_ GE256.out) | exact HB.out)⟩
                     (try clear HO_7)
                     (try clear HO_15)
                     (try clear HO_230001)
                     (try clear BK229)
                     (try clear BK256)
                     (try clear HB)
                     generalize (w96.setCell ⟨go81, (((rd_T27 t225 x21_3).f3) : Int).toNat, none⟩ (.int .i64 (wrap64 ((rd x15_3 ((rd_T27 t225 x21_3).f3)) - ((rd_T27 t225 x21_3).f4))))) = w99 at n0_ n1_ n2_ n3_ n4_ n5_ ⊢
                     have HO_7 := n0_
                     have HO_15 := n1_
                     have HO_230001 := n2_
                     have BK229 := n3_
                     have BK256 := n4_
                     have HB := n5_
                     clear n0_ n1_ n2_ n3_ n4_ n5_
                     have n0_ := Aside0.mk (Kd.R_drew HO_7.out)
                     have n1_ := Aside0.mk (Kd.R_drew HO_15.out)
                     have n2_ := Aside0.mk (Kd.R_drew HO_230001.out)
                     have n3_ := Aside0.mk (blk_drew BK229.out)
                     have n4_ := Aside0.mk (blk_drew BK256.out)
                     have n5_ := Aside0.mk (below_drew1 HB.out)
                     clear HO_7
                     clear HO_15
                     clear HO_230001
                     clear BK229
                     clear BK256
                     clear HB
                     have HO_7 := n0_
                     have HO_15 := n1_
                     have HO_230001 := n2_
                     have BK229 := n3_
                     have BK256 := n4_
                     have HB := n5_
                     clear n0_ n1_ n2_ n3_ n4_ n5_
                     have p263 : 0 ≤ (((rd_T27 t225 x21_3).f2) : Int) := of_decide_eq_true (by first | (with_reducible assumption) | assumption)
                     have q263 : ((rd_T27 t225 x21_3).f2) < (y262.length : Int) := (by have h_ : (((rd_T27 t225 x21_3).f2) : Int) < ((x15_3.length : Int) : Int) := of_decide_eq_true (by first | (with_reducible assumption) | assumption); first | (have e_ := (Kd.R_reads' HO_15.out).1; omega) | simpa only [Ny262.out, List.length_set] using h_)
                     have ql263 : ((((rd_T27 t225 x21_3).f2) : Int) < ((x15_3.length : Int) : Int)) = True := eq_true (of_decide_eq_true (by first | (with_reducible assumption) | assumption))
                     obtain ⟨ad263, e263, hx263_0⟩ := Kd.at_int (Kd.R_reads' HO_15.out).2.2 ((rd_T27 t225 x21_3).f2) p263 q263
                     obtain rfl : (⟨go81, 0, none⟩ : Addr) = ad263 := (by injection e263)
                     (first | simp only [add_plain] at hx263_0 | simp only [add_at] at hx263_0 | simp only [Addr.add, Nat.zero_add] at hx263_0 | skip)
                     replace p263 := eq_true p263
                     replace q263 := eq_true q263
                     have p83 : 0 ≤ (((rd_T27 t225 x21_3).f2) : Int) := of_decide_eq_true (by first | (with_reducible assumption) | assumption)
                     have q83 : (((rd_T27 t225 x21_3).f2) : Int) < ((x15_3.length : Int) : Int) := of_decide_eq_true (by first | (with_reducible assumption) | assumption)
                     obtain ⟨hx83_0, hf83_0⟩ := Kd.R_celln 0 HO_15.out (((rd_T27 t225 x21_3).f2) : Int) p83 q83
                     replace p83 := eq_true p83
                     replace q83 := eq_true q83
                     have HP101 := Kd.R_putn HO_15.out (((rd_T27 t225 x21_3).f2) : Int) (wrap64 ((rd y262 ((rd_T27 t225 x21_3).f2)) + ((rd_T27 t225 x21_3).f4)))
                     rw [← Ny264.out] at HP101
                     have HQ101 := Aside0.mk HP101
                     clear HP101
                     refine start_ (n := 13) (S := fun w' => w'.cell? ⟨gb256, 0, none⟩ = some (.int .i64 ((rd_T27 t225 x21_3).f0)) ∧ w'.cell? ⟨gb256, 1, none⟩ = some (.int .i64 ((rd_T27 t225 x21_3).f1)) ∧ w'.cell? ⟨gb256, 2, none⟩ = some (.int .i64 ((rd_T27 t225 x21_3).f2)) ∧ w'.cell? ⟨gb256, 3, none⟩ = some (.int .i64 ((rd_T27 t225 x21_3).f3)) ∧ w'.cell? ⟨gb256, 4, none⟩ = some (.int .i64 ((rd_T27 t225 x21_3).f4)) ∧ w'.cell? ⟨gb256, 5, none⟩ = some (.int .i64 ((rd_T27 t225 x21_3).f5)) ∧ w'.cell? ⟨gb256, 6, none⟩ = some (.int .i64 ((rd_T27 t225 x21_3).f6)) ∧ w'.cell? ⟨go81, (((rd_T27 t225 x21_3).f2)).toNat, none⟩ = some (.int .i64 (rd y262 ((rd_T27 t225 x21_3).f2)))) (ds := [12]) #[false, false, false, false, false, false, false, false, false, false, false, false, false] (by kernel_rfl) rfl rfl ⟨(blk_cell BK256.out 0).trans rfl, (blk_cell BK256.out 1).trans rfl, (blk_cell BK256.out 2).trans rfl, (blk_cell BK256.out 3).trans rfl, (blk_cell BK256.out 4).trans rfl, (blk_cell BK256.out 5).trans rfl, (blk_cell BK256.out 6).trans rfl, hx263_0⟩ (fun hHeld => ?_); refine with_tabW airchecklaw24_BookSums.tab43 airchecklaw24_BookSums.bits43 (fun HT_ HW_ => ?_)
                     generalize w99.drew = w100 at HO_7 HO_15 HO_230001 BK229 BK256 HB HQ101 HQ98 hf83_0 hx263_0 hx83_0 hHeld ⊢
                     refine pure_ (i := 0) (N := some 188) (v := ?_) (a' := ?_) #[true, false, false, false, false, false, false, false, false, false, false, false, false] rfl rfl (any_of HT_.out (by kernel_rfl)) (fun _ _ _ h => h) (Or.inl ⟨by rfl, ?_⟩) ?_ ?_
                     rotate_left
                     ·intro w'
                      go_simp
                      with_reducible rfl
                     rotate_left
                     ·simp only [Act.put, List.setIfInBounds_toArray, List.set_cons_zero, List.set_cons_succ, i64_w, i32_w]
                      rfl
                     refine pure_ (i := 1) (N := some 189) (v := ?_) (a' := ?_) #[true, true, false, false, false, false, false, false, false, false, false, false, false] rfl rfl (any_of HT_.out (by kernel_rfl)) (fun _ _ _ h => h) (Or.inl ⟨by rfl, ?_⟩) ?_ ?_
                     rotate_left
                     ·intro w'
                      go_simp
                      with_reducible rfl
                     rotate_left
                     ·simp only [Act.put, List.setIfInBounds_toArray, List.set_cons_zero, List.set_cons_succ, i64_w, i32_w]
                      rfl
                     refine pure_ (i := 3) (N := some 191) (v := ?_) (a' := ?_) #[true, true, false, true, false, false, false, false, false, false, false, false, false] rfl rfl (any_of HT_.out (by kernel_rfl)) (fun _ _ _ h => h) (Or.inl ⟨by rfl, ?_⟩) ?_ ?_
                     rotate_left
                     ·intro w'
                      go_simp
                      with_reducible rfl
                     rotate_left
                     ·simp only [Act.put, List.setIfInBounds_toArray, List.set_cons_zero, List.set_cons_succ, i64_w, i32_w]
                      rfl
                     refine pure_ (i := 4) (N := some 192) (v := ?_) (a' := ?_) #[true, true, false, true, true, false, false, false, false, false, false, false, false] rfl rfl (any_of HT_.out (by kernel_rfl)) (fun _ _ _ h => h) (Or.inl ⟨by rfl, ?_⟩) ?_ ?_
                     rotate_left
                     ·intro w'
                      go_simp
                      with_reducible rfl
                     rotate_left
                     ·simp only [Act.put, List.setIfInBounds_toArray, List.set_cons_zero, List.set_cons_succ, i64_w, i32_w]
                      rfl
                     refine pure_ (i := 8) (N := some 196) (v := ?_) (a' := ?_) #[true, true, false, true, true, false, false, false, true, false, false, false, false] rfl rfl (any_of HT_.out (by kernel_rfl)) (fun _ _ _ h => h) (Or.inl ⟨by rfl, ?_⟩) ?_ ?_
                     rotate_left
                     ·intro w'
                      go_simp
                      with_reducible rfl
                     rotate_left
                     ·simp only [Act.put, List.setIfInBounds_toArray, List.set_cons_zero, List.set_cons_succ, i64_w, i32_w]
                      rfl
                     refine take_ (i := 2) (N := some 190) (v := ?_) (a' := ?_) #[true, true, true, true, true, false, false, false, true, false, false, false, false] rfl rfl (take_ofW HT_.out HW_.out (by kernel_rfl)) (fun _ _ _ h => h) (Or.inl ⟨by rfl, ?_⟩) hHeld ?_ ?_
                     rotate_left
                     ·rintro w' ⟨s0, s1, s2, s3, s4, s5, s6, s7⟩
                      go_simp
                      with_reducible rfl
                     rotate_left
                     ·simp only [Act.put, List.setIfInBounds_toArray, List.set_cons_zero, List.set_cons_succ, i64_w, i32_w]
                      rfl
                     refine take_ (i := 5) (N := some 193) (v := ?_) (a' := ?_) #[true, true, true, true, true, true, false, false, true, false, false, false, false] rfl rfl (take_ofW HT_.out HW_.out (by kernel_rfl)) (fun _ _ _ h => h) (Or.inl ⟨by rfl, ?_⟩) hHeld ?_ ?_
                     rotate_left
                     ·rintro w' ⟨s0, s1, s2, s3, s4, s5, s6, s7⟩
                      go_simp
                      with_reducible rfl
                     rotate_left
                     ·simp only [Act.put, List.setIfInBounds_toArray, List.set_cons_zero, List.set_cons_succ, i64_w, i32_w]
                      rfl
                     refine pure_ (i := 6) (N := some 194) (v := ?_) (a' := ?_) #[true, true, true, true, true, true, true, false, true, false, false, false, false] rfl rfl (any_of HT_.out (by kernel_rfl)) (fun _ _ _ h => h) (Or.inl ⟨by rfl, ?_⟩) ?_ ?_
                     rotate_left
                     ·intro w'
                      go_simp
                      with_reducible rfl
                     rotate_left
                     ·simp only [Act.put, List.setIfInBounds_toArray, List.set_cons_zero, List.set_cons_succ, i64_w, i32_w]
                      rfl
                     refine take_ (i := 7) (N := some 195) (v := ?_) (a' := ?_) #[true, true, true, true, true, true, true, true, true, false, false, false, false] rfl rfl (take_ofW HT_.out HW_.out (by kernel_rfl)) (fun _ _ _ h => h) (Or.inl ⟨by rfl, ?_⟩) hHeld ?_ ?_
                     rotate_left
                     ·rintro w' ⟨s0, s1, s2, s3, s4, s5, s6, s7⟩
                      go_simp
                      with_reducible rfl
                     rotate_left
                     ·simp only [Act.put, List.setIfInBounds_toArray, List.set_cons_zero, List.set_cons_succ, i64_w, i32_w]
                      rfl
                     refine take_ (i := 9) (N := some 197) (v := ?_) (a' := ?_) #[true, true, true, true, true, true, true, true, true, true, false, false, false] rfl rfl (take_ofW HT_.out HW_.out (by kernel_rfl)) (fun _ _ _ h => h) (Or.inl ⟨by rfl, ?_⟩) hHeld ?_ ?_
                     rotate_left
                     ·rintro w' ⟨s0, s1, s2, s3, s4, s5, s6, s7⟩
                      go_simp
                      with_reducible rfl
                     rotate_left
                     ·simp only [Act.put, List.setIfInBounds_toArray, List.set_cons_zero, List.set_cons_succ, i64_w, i32_w]
                      rfl
                     refine pure_ (i := 10) (N := some 198) (v := ?_) (a' := ?_) #[true, true, true, true, true, true, true, true, true, true, true, false, false] rfl rfl (any_of HT_.out (by kernel_rfl)) (fun _ _ _ h => h) (Or.inl ⟨by rfl, ?_⟩) ?_ ?_
                     rotate_left
                     ·intro w'
                      go_simp
                      with_reducible rfl
                     rotate_left
                     ·simp only [Act.put, List.setIfInBounds_toArray, List.set_cons_zero, List.set_cons_succ, i64_w, i32_w]
                      rfl
                     refine pure_ (i := 11) (N := some 199) (v := ?_) (a' := ?_) #[true, true, true, true, true, true, true, true, true, true, true, true, false] rfl rfl (any_of HT_.out (by kernel_rfl)) (fun _ _ _ h => h) (Or.inl ⟨by rfl, ?_⟩) ?_ ?_
                     rotate_left
                     ·intro w'
                      go_simp
                      with_reducible rfl
                     rotate_left
                     ·simp only [Act.put, List.setIfInBounds_toArray, List.set_cons_zero, List.set_cons_succ, i64_w, i32_w]
                      rfl
                     refine last_ (i := 12) (N := none) #[true, true, true, true, true, true, true, true, true, true, true, true, true] rfl rfl (one_of HT_.out (by kernel_rfl)) (by decide) (fun K hK => ?_)
                     refine skip_ (w1 := ?_) (by rfl) rfl ?_ ?_
                     rotate_left
                     ·go_simp
                      rfl
                     refine hK.out _ _ ?_
                     clear hK K
                     refine done_ (done_of HT_.out (by kernel_rfl)) ?_
                     try go_wp2
                     go_roundg k3
                     case measure => have := HK1.out; have := HK2.out; have := HK3.out; omega
                     obtain ⟨clb81, HGb81⟩ := Kd.R_typed HO_15.out go81 rfl
                     have GG81 := Aside0.mk HGb81
                     case rel => exact ⟨(y260), (y264), (wrap64 (x21_3 + 1)), (by first | rfl | (simp; done) | (simp [*]; done)), H', ⟨by have := HK1.out; have := HK2.out; have := HK3.out; omega⟩, ⟨by (with_reducible repeat (first | apply Kd.R_alloc | apply Kd.R_drewN | apply Kd.R_drew)); exact Kd.R_mono (Kd.R_far (p := ⟨go81, (((rd_T27 t225 x21_3).f2) : Int).toNat, none⟩) (Kd.R_mono HO_7.out (fun k_ hk => (⟨hk, fun e_ => hk (by rw [e_]; rfl)⟩ : _ ∧ k_ ≠ go81))) (fun _ hk => hk.2) (.int .i64 (wrap64 ((rd y262 ((rd_T27 t225 x21_3).f2)) + ((rd_T27 t225 x21_3).f4))))) (fun _ hk => hk.1)⟩, ⟨by (with_reducible repeat (first | apply Kd.R_alloc | apply Kd.R_drewN | apply Kd.R_drew)); exact HQ101.out⟩, ⟨by (with_reducible repeat (first | apply Kd.R_alloc | apply Kd.R_drewN | apply Kd.R_drew)); exact Kd.R_mono (Kd.R_far (p := ⟨go81, (((rd_T27 t225 x21_3).f2) : Int).toNat, none⟩) (Kd.R_types HO_230001.out GG81.out (by decide)) (fun _ hk => hk.2) (.int .i64 (wrap64 ((rd y262 ((rd_T27 t225 x21_3).f2)) + ((rd_T27 t225 x21_3).f4))))) (fun _ hk => trivial)⟩, ⟨by (with_reducible repeat (first | refine blk_drewN ?_ _ | refine blk_drew ?_ | refine blk_alloc ?_ _)); refine blk_far ?_ (by have h_ := Kd.R_ne HO_15.out BK229.out (by decide); intro e_; exact h_ (by rw [e_]; rfl)) _; (with_reducible repeat (first | refine blk_drewN ?_ _ | refine blk_drew ?_ | refine blk_alloc ?_ _)); exact BK229.out⟩, ⟨by repeat (first | (with_reducible first | exact HB.out | apply below_alloc | apply pw_below_drewN | apply below_drew1 | refine below_set ?_ GB81.out | refine below_set ?_ GE229.out | refine below_set ?_ GE256.out) | exact HB.out)⟩⟩
                    ·rw [if_neg c82] at H
                     exact absurd H (by simp)
                   ·rw [if_neg c80] at H
                    exact absurd H (by simp)
                  ·rw [if_neg c78] at H
                   exact absurd H (by simp)
                 ·rw [if_neg c77] at H
                  exact absurd H (by simp)
                ·rw [if_neg c75] at H
                 exact absurd H (by simp)
               ·rw [if_neg c74] at H
                exact absurd H (by simp)
              ·rw [if_neg c73] at H
               exact absurd H (by simp)
             ·rw [if_neg c72] at H
              have c72b0 : decide (x21_3 < (t225.length : Int)) = false := decide_eq_false c72
              clear c72
              by_cases c102 : t223 = true
              ·subst c102
               have H1 : (if 0 ≤ t224 then (if (t224 : Int).toNat ≤ 35184372088832 then ((aircheckref24_Ints.f k3 x7_3 (List.replicate (t224 : Int).toNat 0)).bind fun t268 => (if t268 = true then ((aircheckref24_Ints.f k3 x15_3 (List.replicate (t224 : Int).toNat 0)).bind fun t272 => (some t272)) else (some false))) else (none)) else (none)) = some r := by rw [if_pos rfl] at H; exact H
               clear H
               have H := H1
               clear H1
               by_cases c103 : 0 ≤ t224
               ·rw [if_pos c103] at H
                have c103b0 := eq_true c103
                have c103b1 : decide (0 ≤ t224) = true := decide_eq_true c103
                clear c103
                by_cases c104 : (t224 : Int).toNat ≤ 35184372088832
                ·rw [if_pos c104] at H
                 have c104b0 := eq_true c104
                 have c104b1 : decide ((t224 : Int).toNat ≤ 35184372088832) = true := decide_eq_true c104
                 clear c104
                 obtain ⟨y265, hy265⟩ : ∃ y_ : List Int, y_ = (List.replicate (t224 : Int).toNat 0) := ⟨_, rfl⟩
                 replace H : ((aircheckref24_Ints.f k3 x7_3 y265).bind fun t268 => (if t268 = true then ((aircheckref24_Ints.f k3 x15_3 (List.replicate (t224 : Int).toNat 0)).bind fun t272 => (some t272)) else (some false))) = some r := by first | (rw [hy265]; with_reducible exact H) | (have H2_ := (Option.bind_some _ _).symm.trans H; rw [hy265]; with_reducible exact H2_) | (have H2_ := (Option.bind_some _ _).symm.trans H; with_reducible exact H2_) | with_reducible exact H | (rw [hy265]; exact H) | exact H
                 have Ny265 := Aside0.mk hy265
                 clear hy265
                 replace H := Option.bind_eq_some_iff.mp H
                 obtain ⟨t268, A1050, H⟩ := H
                 replace H : (if t268 = true then ((aircheckref24_Ints.f k3 x15_3 (List.replicate (t224 : Int).toNat 0)).bind fun t272 => (some t272)) else (some false)) = some r := H
                 have A105 := Aside0.mk A1050
                 clear A1050
                 by_cases c106 : t268 = true
                 ·subst c106
                  have H1 : ((aircheckref24_Ints.f k3 x15_3 (List.replicate (t224 : Int).toNat 0)).bind fun t272 => (some t272)) = some r := by rw [if_pos rfl] at H; exact H
                  clear H
                  have H := H1
                  clear H1
                  obtain ⟨y269, hy269⟩ : ∃ y_ : List Int, y_ = (List.replicate (t224 : Int).toNat 0) := ⟨_, rfl⟩
                  replace H : ((aircheckref24_Ints.f k3 x15_3 y269).bind fun t272 => (some t272)) = some r := by first | (rw [hy269]; with_reducible exact H) | (have H2_ := (Option.bind_some _ _).symm.trans H; rw [hy269]; with_reducible exact H2_) | (have H2_ := (Option.bind_some _ _).symm.trans H; with_reducible exact H2_) | with_reducible exact H | (rw [hy269]; exact H) | exact H
                  have Ny269 := Aside0.mk hy269
                  clear hy269
                  replace H := Option.bind_eq_some_iff.mp H
                  obtain ⟨t272, A1070, H⟩ := H
                  replace H : (some t272) = some r := H
                  have A107 := Aside0.mk A1070
                  clear A1070
                  obtain rfl := Option.some.inj H
                  have hcz108_0 : wr.cell? ⟨gb229, 0, none⟩ = some (.int .i64 t224) := (blk_cell BK229.out 0).trans rfl
                  have hcz108_1 : wr.cell? ⟨gb229, 1, none⟩ = some (.slice Ao11 t225.length co11) := (blk_cell BK229.out 1).trans rfl
                  have hcz108_2 : wr.cell? ⟨gb229, 2, none⟩ = some (.int .i64 t228) := (blk_cell BK229.out 2).trans rfl
                  have hfz108_0 := blk_frozen BK229.out 0
                  have hfz108_1 := blk_frozen BK229.out 1
                  have hfz108_2 := blk_frozen BK229.out 2
                  go_wp2_with (first | ((with_reducible refine gate_dst (N := 205) rfl ?_); (try (refine gate_guard (by rfl) ?_; dsimp only)); refine Kd.R_make (Kd.int .i64) _ 3 rfl (N := 205) rfl 37 _ _ rfl t224 rfl rfl Try.underlying37 (.int .i64 0) 8 info3 rfl (by decide) (by omega) 0 (ok := fun _ => True) (okp := fun _ => True) rfl (fun _ hk => hk) trivial (of_decide_eq_true (by first | (with_reducible assumption) | assumption)) (Nat.le_trans (Nat.mul_le_mul_right _ (of_decide_eq_true (by first | (with_reducible assumption) | assumption) : t224.toNat ≤ 35184372088832)) (by omega)) (Below.refl _ _) (Nat.le_refl _) ?_; intro v266 w109 ho110 hb hg_ hnew_; clear hg_ hnew_; (first | rw [← Ny265.out] at ho110 | (simp only [Int.reduceToNat] at ho110; rw [← Ny265.out] at ho110)); have n0_ := Aside0.mk (Kd.R_elder' (by (with_reducible repeat (first | apply Kd.R_alloc | apply Kd.R_drewN | apply Kd.R_drew)); exact HO_7.out) (Kd.R_base ho110) hb); have n1_ := Aside0.mk (Kd.R_elder' (by (with_reducible repeat (first | apply Kd.R_alloc | apply Kd.R_drewN | apply Kd.R_drew)); exact HO_15.out) (Kd.R_base ho110) hb); have n2_ := Aside0.mk (Kd.R_below (by (with_reducible repeat (first | apply Kd.R_alloc | apply Kd.R_drewN | apply Kd.R_drew)); exact HO_230001.out) hb); have n3_ := Aside0.mk (Kd.R_lower (Kd.R_new' (Kd.R_new' ho110 (Kd.R_lt (by (with_reducible repeat (first | apply Kd.R_alloc | apply Kd.R_drewN | apply Kd.R_drew)); exact HO_7.out))) (Kd.R_lt (by (with_reducible repeat (first | apply Kd.R_alloc | apply Kd.R_drewN | apply Kd.R_drew)); exact HO_15.out))) (below_size (by repeat (first | (with_reducible first | exact HB.out | apply below_alloc | apply pw_below_drewN | apply below_drew1 | refine below_set ?_ GE229.out) | exact HB.out)))); have n4_ := Aside0.mk (blk_below (g := gb229) (o := .cells #[.int .i64 t224, .slice Ao11 t225.length co11, .int .i64 t228] 24 (0, 0)) (by (with_reducible repeat (first | refine blk_drewN ?_ _ | refine blk_drew ?_ | refine blk_alloc ?_ _)); exact BK229.out) hb); have n5_ := Aside0.mk (below_step (by repeat (first | (with_reducible first | exact HB.out | apply below_alloc | apply pw_below_drewN | apply below_drew1 | refine below_set ?_ GE229.out) | exact HB.out)) hb); clear HO_7; clear HO_15; clear HO_230001; clear BK229; clear HB; have HO_7 := n0_; have HO_15 := n1_; have HO_230001 := n2_; have HO267 := n3_; have BK229 := n4_; have HB := n5_; clear n0_ n1_ n2_ n3_ n4_ n5_; clear hb ho110; obtain ⟨Ao111, co111, eo111⟩ := Kd.R_slice HO_7.out; subst eo111; obtain ⟨Ao112, co112, eo112⟩ := Kd.R_slice HO267.out; subst eo112) | (go_at_call 23; (with_reducible refine (aircheckref24_Ints.calls k3 _ _ x7_3 _ _ y265 true _ ?side1 ?side2 ?side3 ?side4 A105.out).mono ?_); (case side1 => repeat (first | exact (Kd.R_reads' HO_7.out).2.2 | (with_reducible refine Kd.C_alloc ?_ _) | (with_reducible refine Kd.C_drewN ?_ _) | (with_reducible refine Kd.C_drew ?_))); (case side2 => exact (Kd.R_reads' HO_7.out).2.1); (case side3 => repeat (first | exact (Kd.R_reads' HO267.out).2.2 | (with_reducible refine Kd.C_alloc ?_ _) | (with_reducible refine Kd.C_drewN ?_ _) | (with_reducible refine Kd.C_drew ?_))); (case side4 => exact (Kd.R_reads' HO267.out).2.1); rintro e w' ⟨rfl, ⟨nd, rfl⟩⟩; have hcz113_0 : w109.cell? ⟨gb229, 0, none⟩ = some (.int .i64 t224) := (blk_cell BK229.out 0).trans rfl; have hcz113_1 : w109.cell? ⟨gb229, 1, none⟩ = some (.slice Ao11 t225.length co11) := (blk_cell BK229.out 1).trans rfl; have hcz113_2 : w109.cell? ⟨gb229, 2, none⟩ = some (.int .i64 t228) := (blk_cell BK229.out 2).trans rfl; have hfz113_0 := blk_frozen BK229.out 0; have hfz113_1 := blk_frozen BK229.out 1; have hfz113_2 := blk_frozen BK229.out 2) | ((with_reducible refine gate_dst (N := 212) rfl ?_); (try (refine gate_guard (by rfl) ?_; dsimp only)); refine Kd.R_make (Kd.int .i64) _ 3 rfl (N := 212) rfl 37 _ _ rfl t224 rfl rfl Try.underlying37 (.int .i64 0) 8 info3 rfl (by decide) (by omega) 0 (ok := fun _ => True) (okp := fun _ => True) rfl (fun _ hk => hk) trivial (of_decide_eq_true (by first | (with_reducible assumption) | assumption)) (Nat.le_trans (Nat.mul_le_mul_right _ (of_decide_eq_true (by first | (with_reducible assumption) | assumption) : t224.toNat ≤ 35184372088832)) (by omega)) (Below.refl _ _) (Nat.le_refl _) ?_; intro v270 w114 ho115 hb hg_ hnew_; clear hg_ hnew_; (first | rw [← Ny269.out] at ho115 | (simp only [Int.reduceToNat] at ho115; rw [← Ny269.out] at ho115)); have n0_ := Aside0.mk (Kd.R_elder' (by (with_reducible repeat (first | apply Kd.R_alloc | apply Kd.R_drewN | apply Kd.R_drew)); exact HO_7.out) (Kd.R_base ho115) hb); have n1_ := Aside0.mk (Kd.R_elder' (by (with_reducible repeat (first | apply Kd.R_alloc | apply Kd.R_drewN | apply Kd.R_drew)); exact HO_15.out) (Kd.R_base ho115) hb); have n2_ := Aside0.mk (Kd.R_below (by (with_reducible repeat (first | apply Kd.R_alloc | apply Kd.R_drewN | apply Kd.R_drew)); exact HO_230001.out) hb); have n3_ := Aside0.mk (Kd.R_elder' (by (with_reducible repeat (first | apply Kd.R_alloc | apply Kd.R_drewN | apply Kd.R_drew)); exact HO267.out) (Kd.R_base ho115) hb); have n4_ := Aside0.mk (Kd.R_lower (Kd.R_new' (Kd.R_new' (Kd.R_new' ho115 (Kd.R_lt (by (with_reducible repeat (first | apply Kd.R_alloc | apply Kd.R_drewN | apply Kd.R_drew)); exact HO_7.out))) (Kd.R_lt (by (with_reducible repeat (first | apply Kd.R_alloc | apply Kd.R_drewN | apply Kd.R_drew)); exact HO_15.out))) (Kd.R_lt (by (with_reducible repeat (first | apply Kd.R_alloc | apply Kd.R_drewN | apply Kd.R_drew)); exact HO267.out))) (below_size (by repeat (first | (with_reducible first | exact HB.out | apply below_alloc | apply pw_below_drewN | apply below_drew1 | refine below_set ?_ GE229.out) | exact HB.out)))); have n5_ := Aside0.mk (blk_below (g := gb229) (o := .cells #[.int .i64 t224, .slice Ao11 t225.length co11, .int .i64 t228] 24 (0, 0)) (by (with_reducible repeat (first | refine blk_drewN ?_ _ | refine blk_drew ?_ | refine blk_alloc ?_ _)); exact BK229.out) hb); have n6_ := Aside0.mk (below_step (by repeat (first | (with_reducible first | exact HB.out | apply below_alloc | apply pw_below_drewN | apply below_drew1 | refine below_set ?_ GE229.out) | exact HB.out)) hb); clear HO_7; clear HO_15; clear HO_230001; clear HO267; clear BK229; clear HB; have HO_7 := n0_; have HO_15 := n1_; have HO_230001 := n2_; have HO267 := n3_; have HO271 := n4_; have BK229 := n5_; have HB := n6_; clear n0_ n1_ n2_ n3_ n4_ n5_ n6_; clear hb ho115; obtain ⟨Ao116, co116, eo116⟩ := Kd.R_slice HO_15.out; subst eo116; obtain ⟨Ao117, co117, eo117⟩ := Kd.R_slice HO271.out; subst eo117) | (go_at_call 23; (with_reducible refine (aircheckref24_Ints.calls k3 _ _ x15_3 _ _ y269 t272 _ ?side1 ?side2 ?side3 ?side4 A107.out).mono ?_); (case side1 => repeat (first | exact (Kd.R_reads' HO_15.out).2.2 | (with_reducible refine Kd.C_alloc ?_ _) | (with_reducible refine Kd.C_drewN ?_ _) | (with_reducible refine Kd.C_drew ?_))); (case side2 => exact (Kd.R_reads' HO_15.out).2.1); (case side3 => repeat (first | exact (Kd.R_reads' HO271.out).2.2 | (with_reducible refine Kd.C_alloc ?_ _) | (with_reducible refine Kd.C_drewN ?_ _) | (with_reducible refine Kd.C_drew ?_))); (case side4 => exact (Kd.R_reads' HO271.out).2.1); rintro e w' ⟨rfl, ⟨nd, rfl⟩⟩))
                  go_ret
                  exact ⟨by first | rfl | (simp [errW_none, errW_some] <;> rfl) | (simp [*, errW_none, errW_some] <;> rfl), by repeat (first | (with_reducible first | exact HB.out | apply below_alloc | apply pw_below_drewN | apply below_drew1 | refine below_set ?_ GE229.out) | exact HB.out)⟩
                 ·replace c106 := Bool.eq_false_iff.mpr c106
                  subst c106
                  have H1 : (some false) = some r := by rw [if_neg (show ¬ (false = true) by decide)] at H; exact H
                  clear H
                  have H := H1
                  clear H1
                  obtain rfl := Option.some.inj H
                  have hcz118_0 : wr.cell? ⟨gb229, 0, none⟩ = some (.int .i64 t224) := (blk_cell BK229.out 0).trans rfl
                  have hcz118_1 : wr.cell? ⟨gb229, 1, none⟩ = some (.slice Ao11 t225.length co11) := (blk_cell BK229.out 1).trans rfl
                  have hcz118_2 : wr.cell? ⟨gb229, 2, none⟩ = some (.int .i64 t228) := (blk_cell BK229.out 2).trans rfl
                  have hfz118_0 := blk_frozen BK229.out 0
                  have hfz118_1 := blk_frozen BK229.out 1
                  have hfz118_2 := blk_frozen BK229.out 2
                  go_wp2_with (first | ((with_reducible refine gate_dst (N := 205) rfl ?_); (try (refine gate_guard (by rfl) ?_; dsimp only)); refine Kd.R_make (Kd.int .i64) _ 3 rfl (N := 205) rfl 37 _ _ rfl t224 rfl rfl Try.underlying37 (.int .i64 0) 8 info3 rfl (by decide) (by omega) 0 (ok := fun _ => True) (okp := fun _ => True) rfl (fun _ hk => hk) trivial (of_decide_eq_true (by first | (with_reducible assumption) | assumption)) (Nat.le_trans (Nat.mul_le_mul_right _ (of_decide_eq_true (by first | (with_reducible assumption) | assumption) : t224.toNat ≤ 35184372088832)) (by omega)) (Below.refl _ _) (Nat.le_refl _) ?_; intro v266 w119 ho120 hb hg_ hnew_; clear hg_ hnew_; (first | rw [← Ny265.out] at ho120 | (simp only [Int.reduceToNat] at ho120; rw [← Ny265.out] at ho120)); have n0_ := Aside0.mk (Kd.R_elder' (by (with_reducible repeat (first | apply Kd.R_alloc | apply Kd.R_drewN | apply Kd.R_drew)); exact HO_7.out) (Kd.R_base ho120) hb); have n1_ := Aside0.mk (Kd.R_elder' (by (with_reducible repeat (first | apply Kd.R_alloc | apply Kd.R_drewN | apply Kd.R_drew)); exact HO_15.out) (Kd.R_base ho120) hb); have n2_ := Aside0.mk (Kd.R_below (by (with_reducible repeat (first | apply Kd.R_alloc | apply Kd.R_drewN | apply Kd.R_drew)); exact HO_230001.out) hb); have n3_ := Aside0.mk (Kd.R_lower (Kd.R_new' (Kd.R_new' ho120 (Kd.R_lt (by (with_reducible repeat (first | apply Kd.R_alloc | apply Kd.R_drewN | apply Kd.R_drew)); exact HO_7.out))) (Kd.R_lt (by (with_reducible repeat (first | apply Kd.R_alloc | apply Kd.R_drewN | apply Kd.R_drew)); exact HO_15.out))) (below_size (by repeat (first | (with_reducible first | exact HB.out | apply below_alloc | apply pw_below_drewN | apply below_drew1 | refine below_set ?_ GE229.out) | exact HB.out)))); have n4_ := Aside0.mk (blk_below (g := gb229) (o := .cells #[.int .i64 t224, .slice Ao11 t225.length co11, .int .i64 t228] 24 (0, 0)) (by (with_reducible repeat (first | refine blk_drewN ?_ _ | refine blk_drew ?_ | refine blk_alloc ?_ _)); exact BK229.out) hb); have n5_ := Aside0.mk (below_step (by repeat (first | (with_reducible first | exact HB.out | apply below_alloc | apply pw_below_drewN | apply below_drew1 | refine below_set ?_ GE229.out) | exact HB.out)) hb); clear HO_7; clear HO_15; clear HO_230001; clear BK229; clear HB; have HO_7 := n0_; have HO_15 := n1_; have HO_230001 := n2_; have HO267 := n3_; have BK229 := n4_; have HB := n5_; clear n0_ n1_ n2_ n3_ n4_ n5_; clear hb ho120; obtain ⟨Ao121, co121, eo121⟩ := Kd.R_slice HO_7.out; subst eo121; obtain ⟨Ao122, co122, eo122⟩ := Kd.R_slice HO267.out; subst eo122) | (go_at_call 23; (with_reducible refine (aircheckref24_Ints.calls k3 _ _ x7_3 _ _ y265 false _ ?side1 ?side2 ?side3 ?side4 A105.out).mono ?_); (case side1 => repeat (first | exact (Kd.R_reads' HO_7.out).2.2 | (with_reducible refine Kd.C_alloc ?_ _) | (with_reducible refine Kd.C_drewN ?_ _) | (with_reducible refine Kd.C_drew ?_))); (case side2 => exact (Kd.R_reads' HO_7.out).2.1); (case side3 => repeat (first | exact (Kd.R_reads' HO267.out).2.2 | (with_reducible refine Kd.C_alloc ?_ _) | (with_reducible refine Kd.C_drewN ?_ _) | (with_reducible refine Kd.C_drew ?_))); (case side4 => exact (Kd.R_reads' HO267.out).2.1); rintro e w' ⟨rfl, ⟨nd, rfl⟩⟩))
                  go_ret
                  exact ⟨by first | rfl | (simp [errW_none, errW_some] <;> rfl) | (simp [*, errW_none, errW_some] <;> rfl), by repeat (first | (with_reducible first | exact HB.out | apply below_alloc | apply pw_below_drewN | apply below_drew1 | refine below_set ?_ GE229.out) | exact HB.out)⟩
                ·rw [if_neg c104] at H
                 exact absurd H (by simp)
               ·rw [if_neg c103] at H
                exact absurd H (by simp)
              ·replace c102 := Bool.eq_false_iff.mpr c102
               subst c102
               have H1 : (some false) = some r := by rw [if_neg (show ¬ (false = true) by decide)] at H; exact H
               clear H
               have H := H1
               clear H1
               obtain rfl := Option.some.inj H
               have hcz123_0 : wr.cell? ⟨gb229, 0, none⟩ = some (.int .i64 t224) := (blk_cell BK229.out 0).trans rfl
               have hcz123_1 : wr.cell? ⟨gb229, 1, none⟩ = some (.slice Ao11 t225.length co11) := (blk_cell BK229.out 1).trans rfl
               have hcz123_2 : wr.cell? ⟨gb229, 2, none⟩ = some (.int .i64 t228) := (blk_cell BK229.out 2).trans rfl
               have hfz123_0 := blk_frozen BK229.out 0
               have hfz123_1 := blk_frozen BK229.out 1
               have hfz123_2 := blk_frozen BK229.out 2
               go_wp2
               go_ret
               exact ⟨by first | rfl | (simp [errW_none, errW_some] <;> rfl) | (simp [*, errW_none, errW_some] <;> rfl), by repeat (first | (with_reducible first | exact HB.out | apply below_alloc | apply pw_below_drewN | apply below_drew1 | refine below_set ?_ GE229.out) | exact HB.out)⟩
       ·rw [if_neg c46] at H
        exact absurd H (by simp)
      ·rw [if_neg c45] at H
       exact absurd H (by simp)
  ·rw [if_neg c6] at H
   exact absurd H (by simp)
 ·rw [if_neg c5] at H
  exact absurd H (by simp)
end Go.Proofs.Ytooogaogbffjfaa.PL
end
