import Derived.Test.YtooogaogbffjfaaDoorMBookHeadsMatchReferenceal
import Derived.Test.YtooogaogbffjfaaDoorMBookHeadsMatchReferencear
import Derived.Outline
/-
  Texts of this claim, one behind the other: what they prove stands above each.
-/
section
set_option linter.unusedVariables false
set_option linter.unusedSimpArgs false
namespace Go.Proofs.YtooogaogbffjfaaDoor.Ext
set_option maxRecDepth 100000
open Go.RowKit Go.Proofs.YtooogaogbffjfaaDoorW.PrintWords Go.Proofs.YtooogaogbffjfaaDoorW.PrintLast Go.Proofs.YtooogaogbffjfaaDoorW.PrintMore Go.Proofs.YtooogaogbffjfaaDoor.PK Go.Proofs.YtooogaogbffjfaaDoor.Bk Go.Proofs.YtooogaogbffjfaaDoor.PB
attribute [local go_sem] Oper.semAt_some
attribute [local go_sem high] eqA27
def Row {α : Type} (d : Kd α) (e : Nat) (w w' : World) (A : Option Addr) (n c : Nat) (l : List α) : Prop := Kd.C d w' A n l ∧ n ≤ c ∧ Below w.heap.size w w'
theorem Row.of {α : Type} {d : Kd α} {e : Nat} {w w' : World} {v : Value} {l : List α} (n : Nat) (hn : l.length = n) (h : Kd.R d e w' w.heap.size (fun _ => True) v l) (hb : Below w.heap.size w w') : ∃ A c, v = .slice A n c ∧ Row d e w w' A n c l := by
  obtain ⟨A, c, rfl⟩ := Kd.R_slice h
  have := Kd.R_reads' h
  subst hn
  exact ⟨A, c, rfl, this.2.2, this.2.1, hb⟩
def sp0 : S27 := ⟨2, 5, 0, 1, 90, 7, -1⟩
def sp1 : S27 := ⟨3, 40, 1, 0, 90, 7, 0⟩
def sp2 : S27 := ⟨2, 40, 0, 1, 60, 7, -1⟩
theorem s_post (w : World) : Calls Tryd.prog 17 #[.agg #[.int .i64 3, .slice none 0 0, .int .i64 0], .agg #[.int .i64 2, .int .i64 5, .int .i64 0, .int .i64 1, .int .i64 90, .int .i64 7, .int .i64 (-1)]] w fun e w' => ∃ A c, e = .returned (.tuple #[.agg #[.int .i64 3, .slice A 1 c, .int .i64 0], .int .i64 0, .int .i64 0]) ∧ Row k27 27 w w' A 1 c [sp0] := by
  refine (book_Post.calls 3 none 0 [] 0 2 5 0 1 90 7 (-1) 3 [sp0] 0 0 0 w (Kd.C_nil _ _) (Nat.le_refl _) (by kernel_rfl)).mono ?_
  rintro e w' ⟨v, rfl, hR, hb⟩
  obtain ⟨A, c, rfl, h⟩ := Row.of 1 rfl hR hb
  exact ⟨A, c, rfl, h⟩
theorem s_post2 (w : World) (A : Option Addr) (c : Nat) (hC : Kd.C k27 w A 3 [sp0, sp1, sp2]) (hc : 3 ≤ c) : Calls Tryd.prog 17 #[.agg #[.int .i64 3, .slice A 3 c, .int .i64 0], .agg #[.int .i64 2, .int .i64 39, .int .i64 0, .int .i64 1, .int .i64 1, .int .i64 0, .int .i64 (-1)]] w fun e w' => e = .returned (.tuple #[.agg #[.int .i64 0, .slice none 0 0, .int .i64 0], .int .i64 0, .int .i64 240]) ∧ Below w.heap.size w w' := by
  have ho : okAll 3 [] [sp0, sp1, sp2] = true := by kernel_rfl
  exact Post_no3 3 0 A c [sp0, sp1, sp2] ⟨2, 39, 0, 1, 1, 0, -1⟩ w hC (by decide) ho (by kernel_rfl) (by kernel_rfl)
theorem s_disp (w : World) (A : Option Addr) (c : Nat) (hC : Kd.C k27 w A 1 [sp0]) (hc : 1 ≤ c) : Calls Tryd.prog 19 #[.agg #[.int .i64 3, .slice A 1 c, .int .i64 0], .int .i64 0, .int .i64 40, .int .i64 60] w fun e w' => ∃ A c, e = .returned (.tuple #[.agg #[.int .i64 3, .slice A 3 c, .int .i64 0], .int .i64 0]) ∧ Row k27 27 w w' A 3 c [sp0, sp1, sp2] := by
  refine (book_Dispute.calls 3 A c [sp0] 0 0 40 60 3 [sp0, sp1, sp2] 0 0 w hC hc (by kernel_rfl)).mono ?_
  rintro e w' ⟨v, rfl, hR, hb⟩
  obtain ⟨A, c, rfl, h⟩ := Row.of 3 rfl hR hb
  exact ⟨A, c, rfl, h⟩
theorem s_disp2 (w : World) (A : Option Addr) (c : Nat) (hC : Kd.C k27 w A 3 [sp0, sp1, sp2]) (hc : 3 ≤ c) : Calls Tryd.prog 19 #[.agg #[.int .i64 3, .slice A 3 c, .int .i64 0], .int .i64 0, .int .i64 50, .int .i64 1] w fun e w' => e = .returned (.tuple #[.agg #[.int .i64 0, .slice none 0 0, .int .i64 0], .int .i64 240]) ∧ Below w.heap.size w w' :=
  Dispute_no6 3 0 A c 3 [sp0, sp1, sp2] rfl 0 50 1 w hC (by decide) (by kernel_rfl) (by kernel_rfl) 0 rfl (by decide) (by decide) (by decide) sp0 rfl (by kernel_rfl)
theorem s_close (w : World) (A : Option Addr) (c : Nat) (hC : Kd.C k27 w A 3 [sp0, sp1, sp2]) (hc : 3 ≤ c) : Calls Tryd.prog 21 #[.agg #[.int .i64 3, .slice A 3 c, .int .i64 0], .int .i64 0] w fun e w' => ∃ A c, e = .returned (.tuple #[.agg #[.int .i64 3, .slice A 3 c, .int .i64 1], .int .i64 0]) ∧ Row k27 27 w w' A 3 c [sp0, sp1, sp2] := by
  refine (book_Close.calls 3 A c [sp0, sp1, sp2] 0 0 3 [sp0, sp1, sp2] 1 0 w hC hc (by kernel_rfl)).mono ?_
  rintro e w' ⟨v, rfl, hR, hb⟩
  obtain ⟨A, c, rfl, h⟩ := Row.of 3 rfl hR hb
  exact ⟨A, c, rfl, h⟩
theorem s_stmt (w : World) (A : Option Addr) (n c : Nat) (ps : List S27) (hn : ps.length = n) (m : Int) (a b : Int) (hC : Kd.C k27 w A n ps) (hc : n ≤ c) (h : book_Statement.f 3 ps 0 m = some ([a, b, 0], 0)) : Calls Tryd.prog 18 #[.agg #[.int .i64 3, .slice A n c, .int .i64 0], .int .i64 m] w fun e w' => ∃ B d, e = .returned (.tuple #[.slice B 3 d, .int .i64 0]) ∧ Row (Kd.int .i64) 3 w w' B 3 d [a, b, 0] := by
  subst hn
  refine (book_Statement.calls 3 A c ps 0 m [a, b, 0] 0 w hC hc h).mono ?_
  rintro e w' ⟨v, rfl, hR, hb⟩
  obtain ⟨A, c, rfl, h⟩ := Row.of 3 rfl hR hb
  exact ⟨A, c, rfl, h⟩
theorem s_owed (w : World) (A : Option Addr) (c : Nat) (hC : Kd.C k27 w A 3 [sp0, sp1, sp2]) (hc : 3 ≤ c) : Calls Tryd.prog 20 #[.agg #[.int .i64 3, .slice A 3 c, .int .i64 0], .int .i64 7] w fun e w' => ∃ B d, e = .returned (.tuple #[.slice B 3 d, .int .i64 0]) ∧ Row (Kd.int .i64) 3 w w' B 3 d [-60, 60, 0] := by
  refine (book_Owed.calls 3 A c [sp0, sp1, sp2] 0 7 [-60, 60, 0] 0 w hC hc (by kernel_rfl)).mono ?_
  rintro e w' ⟨v, rfl, hR, hb⟩
  obtain ⟨A, c, rfl, h⟩ := Row.of 3 rfl hR hb
  exact ⟨A, c, rfl, h⟩
theorem s_bal (w : World) (A : Option Addr) (c : Nat) (hC : Kd.C k27 w A 3 [sp0, sp1, sp2]) (hc : 3 ≤ c) : Calls Tryd.prog 22 #[.agg #[.int .i64 3, .slice A 3 c, .int .i64 0], .int .i64 1, .int .i64 1] w fun e w' => e = .returned (.tuple #[.int .i64 (-30), .int .i64 0]) ∧ Below w.heap.size w w' :=
  book_Balance.calls 3 A c [sp0, sp1, sp2] 0 1 1 (-30) 0 w hC hc (by kernel_rfl)
theorem s_valid (w : World) (A : Option Addr) (c : Nat) (hC : Kd.C k27 w A 3 [sp0, sp1, sp2]) (hc : 3 ≤ c) : Calls Tryd.prog 24 #[.agg #[.int .i64 3, .slice A 3 c, .int .i64 1]] w fun e w' => e = .returned (.bool true) ∧ Below w.heap.size w w' :=
  book_Valid.calls 3 A c [sp0, sp1, sp2] 1 true w hC hc (by kernel_rfl)
theorem s_valid0 (w : World) : Calls Tryd.prog 24 #[.agg #[.int .i64 0, .slice none 0 0, .int .i64 0]] w fun e w' => e = .returned (.bool false) ∧ Below w.heap.size w w' :=
  book_Valid.calls 0 none 0 [] 0 false w (Kd.C_nil _ _) (Nat.le_refl _) (by kernel_rfl)
theorem s_ints (w : World) (A B : Option Addr) (c d : Nat) (x y z : Int) (hA : Kd.C (Kd.int .i64) w A 3 [x, y, z]) (hB : Kd.C (Kd.int .i64) w B 3 [x, y, z]) (hc : 3 ≤ c) (hd : 3 ≤ d) : Calls Tryd.prog 23 #[.slice A 3 c, .slice B 3 d] w fun e w' => e = .returned (.bool true) ∧ Drawn0 w w' := by
  refine aircheckref24_Ints.calls 5 A c [x, y, z] B d [x, y, z] true w hA hc hB hd ?_
  simp [aircheckref24_Ints.f, aircheckref24_Ints.l0, rd, wrap64]
theorem lit3 (w : World) (x y z : Int) : Kd.C (Kd.int .i64) (w.alloc (.cells #[.int .i64 x, .int .i64 y, .int .i64 z] 3)) (some ⟨w.heap.size, 0, none⟩) 3 [x, y, z] := by
  refine Kd.C_of_reads (d := (0 : Int)) (h1 := fun _ => rfl) ⟨rfl, by omega, fun _ => ⟨_, rfl, fun j hj => ?_⟩⟩
  have hB := Blk.newA w 3 #[.int .i64 x, .int .i64 y, .int .i64 z] [.int .i64 x, .int .i64 y, .int .i64 z] rfl
  match j, hj with
  | 0, _ => exact hB.cell (j := 0) rfl
  | 1, _ => exact hB.cell (j := 1) rfl
  | 2, _ => exact hB.cell (j := 2) rfl
set_option maxRecDepth 100000 in
set_option maxHeartbeats 8000000 in
theorem sane_walk (w : World) : Calls Tryd.prog 5 #[] w fun e w' => e = .returned (.bool true) ∧ Below w.heap.size w w' := by
  go_enter Tryd.func5, Tryd.ntmps5
  go_wp2_with (first | (go_at_call 17; (with_reducible refine (s_post _).mono ?_); rintro e w1 ⟨A1, c1, rfl, h1⟩) | fail)
  have hB1 : Blk (w1.alloc (.cells #[.int .i64 3, .slice A1 1 c1, .int .i64 0] 24)) w1.heap.size 24 [.int .i64 3, .slice A1 1 c1, .int .i64 0] := Blk.newA w1 _ _ _ rfl
  have hn1 : Below w1.heap.size w1 (w1.alloc (.cells #[.int .i64 3, .slice A1 1 c1, .int .i64 0] 24)) := (Below.refl _ _).alloc (Nat.le_refl _) _
  have hC1 := Kd.C_below h1.1 hn1
  have HW1 := Lib.hid (Below.trans h1.2.2 (hn1.mono h1.2.2.size))
  clear hn1
  generalize w1.alloc (.cells #[.int .i64 3, .slice A1 1 c1, .int .i64 0] 24) = W1 at *
  generalize w1.heap.size = g1 at *
  have HC1 := Lib.hid (And.intro hC1 h1.2.1)
  clear h1 hC1
  have x0 := hB1.cell (j := 0) rfl
  have x1 := hB1.cell (j := 1) rfl
  have x2 := hB1.cell (j := 2) rfl
  have HB1 := Lib.hid hB1
  clear hB1
  refine (s_stmt W1 A1 1 c1 [sp0] rfl 0 (-90) 90 HC1.out.1 HC1.out.2 (by kernel_rfl)).mono ?_
  rintro e w2 ⟨B2, d2, rfl, h2⟩
  clear x0 x1 x2
  have HB1 := Lib.hid (HB1.out.belowS h2.2.2)
  have HC1 := Lib.hid (And.intro (Kd.C_below HC1.out.1 h2.2.2) HC1.out.2)
  have HS2 := Lib.hid (And.intro h2.1 h2.2.1)
  have HW2 := Lib.hid (Below.trans HW1.out (h2.2.2.mono HW1.out.size))
  clear h2
  have x0 := HB1.out.cell (j := 0) rfl
  have x1 := HB1.out.cell (j := 1) rfl
  have x2 := HB1.out.cell (j := 2) rfl
  go_wp2_with fail
  clear x0 x1 x2
  refine (s_disp w2 A1 c1 HC1.out.1 HC1.out.2).mono ?_
  rintro e w3 ⟨A3, c3, rfl, h3⟩
  have HS2 := Lib.hid (And.intro (Kd.C_below HS2.out.1 h3.2.2) HS2.out.2)
  have HW3 := Below.trans HW2.out (h3.2.2.mono HW2.out.size)
  clear HB1 HC1
  go_wp2_with fail
  have hB3 : Blk (w3.alloc (.cells #[.int .i64 3, .slice A3 3 c3, .int .i64 0] 24)) w3.heap.size 24 [.int .i64 3, .slice A3 3 c3, .int .i64 0] := Blk.newA w3 _ _ _ rfl
  have hn3 : Below w3.heap.size w3 (w3.alloc (.cells #[.int .i64 3, .slice A3 3 c3, .int .i64 0] 24)) := (Below.refl _ _).alloc (Nat.le_refl _) _
  have hC3 := Kd.C_below h3.1 hn3
  have hS2 := And.intro (Kd.C_below HS2.out.1 hn3) HS2.out.2
  have HW3 := Lib.hid (Below.trans HW3 (hn3.mono HW3.size))
  clear hn3
  generalize w3.alloc (.cells #[.int .i64 3, .slice A3 3 c3, .int .i64 0] 24) = W3 at *
  generalize w3.heap.size = g3 at *
  have HC := Lib.hid (And.intro hC3 h3.2.1)
  have HS2 := Lib.hid hS2
  have HB := Lib.hid hB3
  have HW := HW3
  clear hC3 h3 hS2 hB3 HW3 HW1 HW2
  refine (s_stmt W3 A3 3 c3 [sp0, sp1, sp2] rfl 0 (-90) 90 HC.out.1 HC.out.2 (by kernel_rfl)).mono ?_
  rintro e w4 ⟨B4, d4, rfl, h4⟩
  have HC := Lib.hid (And.intro (Kd.C_below HC.out.1 h4.2.2) HC.out.2)
  have HB := Lib.hid (HB.out.belowS h4.2.2)
  have HW := Lib.hid (Below.trans HW.out (h4.2.2.mono HW.out.size))
  have HS2 := Lib.hid (And.intro (Kd.C_below HS2.out.1 h4.2.2) HS2.out.2)
  have HS4 := Lib.hid (And.intro h4.1 h4.2.1)
  clear h4
  have x0 := HB.out.cell (j := 0) rfl
  have x1 := HB.out.cell (j := 1) rfl
  have x2 := HB.out.cell (j := 2) rfl
  go_wp2_with fail
  clear x0 x1 x2
  refine (s_stmt w4 A3 3 c3 [sp0, sp1, sp2] rfl 1 30 (-30) HC.out.1 HC.out.2 (by kernel_rfl)).mono ?_
  rintro e w5 ⟨B5, d5, rfl, h5⟩
  have HC := Lib.hid (And.intro (Kd.C_below HC.out.1 h5.2.2) HC.out.2)
  have HB := Lib.hid (HB.out.belowS h5.2.2)
  have HW := Lib.hid (Below.trans HW.out (h5.2.2.mono HW.out.size))
  have HS2 := Lib.hid (And.intro (Kd.C_below HS2.out.1 h5.2.2) HS2.out.2)
  have HS4 := Lib.hid (And.intro (Kd.C_below HS4.out.1 h5.2.2) HS4.out.2)
  have HS5 := Lib.hid (And.intro h5.1 h5.2.1)
  clear h5
  have x0 := HB.out.cell (j := 0) rfl
  have x1 := HB.out.cell (j := 1) rfl
  have x2 := HB.out.cell (j := 2) rfl
  go_wp2_with fail
  clear x0 x1 x2
  refine (s_owed w5 A3 c3 HC.out.1 HC.out.2).mono ?_
  rintro e w6 ⟨B6, d6, rfl, h6⟩
  have HC := Lib.hid (And.intro (Kd.C_below HC.out.1 h6.2.2) HC.out.2)
  have HB := Lib.hid (HB.out.belowS h6.2.2)
  have HW := Lib.hid (Below.trans HW.out (h6.2.2.mono HW.out.size))
  have HS2 := Lib.hid (And.intro (Kd.C_below HS2.out.1 h6.2.2) HS2.out.2)
  have HS4 := Lib.hid (And.intro (Kd.C_below HS4.out.1 h6.2.2) HS4.out.2)
  have HS5 := Lib.hid (And.intro (Kd.C_below HS5.out.1 h6.2.2) HS5.out.2)
  have HS6 := Lib.hid (And.intro h6.1 h6.2.1)
  clear h6
  have x0 := HB.out.cell (j := 0) rfl
  have x1 := HB.out.cell (j := 1) rfl
  have x2 := HB.out.cell (j := 2) rfl
  go_wp2_with fail
  clear x0 x1 x2
  refine (s_disp2 w6 A3 c3 HC.out.1 HC.out.2).mono ?_
  rintro e w7 ⟨rfl, h7⟩
  have HC := Lib.hid (And.intro (Kd.C_below HC.out.1 h7) HC.out.2)
  have HB := Lib.hid (HB.out.belowS h7)
  have HW := Lib.hid (Below.trans HW.out (h7.mono HW.out.size))
  have HS2 := Lib.hid (And.intro (Kd.C_below HS2.out.1 h7) HS2.out.2)
  have HS4 := Lib.hid (And.intro (Kd.C_below HS4.out.1 h7) HS4.out.2)
  have HS5 := Lib.hid (And.intro (Kd.C_below HS5.out.1 h7) HS5.out.2)
  have HS6 := Lib.hid (And.intro (Kd.C_below HS6.out.1 h7) HS6.out.2)
  clear h7
  have x0 := c_old (o := .cells #[.int .i64 0, .slice none 0 0, .int .i64 0] 24) (HB.out.cell (j := 0) rfl)
  have x1 := c_old (o := .cells #[.int .i64 0, .slice none 0 0, .int .i64 0] 24) (HB.out.cell (j := 1) rfl)
  have x2 := c_old (o := .cells #[.int .i64 0, .slice none 0 0, .int .i64 0] 24) (HB.out.cell (j := 2) rfl)
  go_wp2_with fail
  clear x0 x1 x2
  have hn : Below w7.heap.size w7 (w7.alloc (.cells #[.int .i64 0, .slice none 0 0, .int .i64 0] 24)) := (Below.refl _ _).alloc (Nat.le_refl _) _
  have HC := Lib.hid (And.intro (Kd.C_below HC.out.1 hn) HC.out.2)
  have HB := Lib.hid (HB.out.belowS hn)
  have HW := Lib.hid (Below.trans HW.out (hn.mono HW.out.size))
  have HS2 := Lib.hid (And.intro (Kd.C_below HS2.out.1 hn) HS2.out.2)
  have HS4 := Lib.hid (And.intro (Kd.C_below HS4.out.1 hn) HS4.out.2)
  have HS5 := Lib.hid (And.intro (Kd.C_below HS5.out.1 hn) HS5.out.2)
  have HS6 := Lib.hid (And.intro (Kd.C_below HS6.out.1 hn) HS6.out.2)
  clear hn
  generalize w7.alloc (.cells #[.int .i64 0, .slice none 0 0, .int .i64 0] 24) = W7 at *
  refine (s_post2 W7 A3 c3 HC.out.1 HC.out.2).mono ?_
  rintro e w8 ⟨rfl, h8⟩
  have HC := Lib.hid (And.intro (Kd.C_below HC.out.1 h8) HC.out.2)
  have HB := Lib.hid (HB.out.belowS h8)
  have HW := Lib.hid (Below.trans HW.out (h8.mono HW.out.size))
  have HS2 := Lib.hid (And.intro (Kd.C_below HS2.out.1 h8) HS2.out.2)
  have HS4 := Lib.hid (And.intro (Kd.C_below HS4.out.1 h8) HS4.out.2)
  have HS5 := Lib.hid (And.intro (Kd.C_below HS5.out.1 h8) HS5.out.2)
  have HS6 := Lib.hid (And.intro (Kd.C_below HS6.out.1 h8) HS6.out.2)
  clear h8
  have x0 := c_old (o := .cells #[.int .i64 0, .slice none 0 0, .int .i64 0] 24) (HB.out.cell (j := 0) rfl)
  have x1 := c_old (o := .cells #[.int .i64 0, .slice none 0 0, .int .i64 0] 24) (HB.out.cell (j := 1) rfl)
  have x2 := c_old (o := .cells #[.int .i64 0, .slice none 0 0, .int .i64 0] 24) (HB.out.cell (j := 2) rfl)
  go_wp2_with fail
  clear x0 x1 x2
  have hn : Below w8.heap.size w8 (w8.alloc (.cells #[.int .i64 0, .slice none 0 0, .int .i64 0] 24)) := (Below.refl _ _).alloc (Nat.le_refl _) _
  have HC := Lib.hid (And.intro (Kd.C_below HC.out.1 hn) HC.out.2)
  have HB := Lib.hid (HB.out.belowS hn)
  have HW := Lib.hid (Below.trans HW.out (hn.mono HW.out.size))
  have HS2 := Lib.hid (And.intro (Kd.C_below HS2.out.1 hn) HS2.out.2)
  have HS4 := Lib.hid (And.intro (Kd.C_below HS4.out.1 hn) HS4.out.2)
  have HS5 := Lib.hid (And.intro (Kd.C_below HS5.out.1 hn) HS5.out.2)
  have HS6 := Lib.hid (And.intro (Kd.C_below HS6.out.1 hn) HS6.out.2)
  clear hn
  generalize w8.alloc (.cells #[.int .i64 0, .slice none 0 0, .int .i64 0] 24) = W8 at *
  refine (s_close W8 A3 c3 HC.out.1 HC.out.2).mono ?_
  rintro e w9 ⟨A9, c9, rfl, h9⟩
  have HC := Lib.hid (And.intro (Kd.C_below HC.out.1 h9.2.2) HC.out.2)
  have HB := Lib.hid (HB.out.belowS h9.2.2)
  have HW := Lib.hid (Below.trans HW.out (h9.2.2.mono HW.out.size))
  have HS2 := Lib.hid (And.intro (Kd.C_below HS2.out.1 h9.2.2) HS2.out.2)
  have HS4 := Lib.hid (And.intro (Kd.C_below HS4.out.1 h9.2.2) HS4.out.2)
  have HS5 := Lib.hid (And.intro (Kd.C_below HS5.out.1 h9.2.2) HS5.out.2)
  have HS6 := Lib.hid (And.intro (Kd.C_below HS6.out.1 h9.2.2) HS6.out.2)
  have HC9 := Lib.hid (And.intro h9.1 h9.2.1)
  clear h9
  have x0 := c_old (o := .cells #[.int .i64 3, .slice A9 3 c9, .int .i64 1] 24) (HB.out.cell (j := 0) rfl)
  have x1 := c_old (o := .cells #[.int .i64 3, .slice A9 3 c9, .int .i64 1] 24) (HB.out.cell (j := 1) rfl)
  have x2 := c_old (o := .cells #[.int .i64 3, .slice A9 3 c9, .int .i64 1] 24) (HB.out.cell (j := 2) rfl)
  go_wp2_with fail
  clear x0 x1 x2
  have hn : Below w9.heap.size w9 (w9.alloc (.cells #[.int .i64 3, .slice A9 3 c9, .int .i64 1] 24)) := (Below.refl _ _).alloc (Nat.le_refl _) _
  have HB9 := Lib.hid (Blk.newA w9 24 #[.int .i64 3, .slice A9 3 c9, .int .i64 1] [.int .i64 3, .slice A9 3 c9, .int .i64 1] rfl)
  have HC := Lib.hid (And.intro (Kd.C_below HC.out.1 hn) HC.out.2)
  have HB := Lib.hid (HB.out.belowS hn)
  have HW := Lib.hid (Below.trans HW.out (hn.mono HW.out.size))
  have HS2 := Lib.hid (And.intro (Kd.C_below HS2.out.1 hn) HS2.out.2)
  have HS4 := Lib.hid (And.intro (Kd.C_below HS4.out.1 hn) HS4.out.2)
  have HS5 := Lib.hid (And.intro (Kd.C_below HS5.out.1 hn) HS5.out.2)
  have HS6 := Lib.hid (And.intro (Kd.C_below HS6.out.1 hn) HS6.out.2)
  have HC9 := Lib.hid (And.intro (Kd.C_below HC9.out.1 hn) HC9.out.2)
  clear hn
  generalize w9.alloc (.cells #[.int .i64 3, .slice A9 3 c9, .int .i64 1] 24) = W9 at *
  generalize w9.heap.size = g9 at *
  refine (s_bal W9 A3 c3 HC.out.1 HC.out.2).mono ?_
  rintro e w10 ⟨rfl, h10⟩
  have HC := Lib.hid (And.intro (Kd.C_below HC.out.1 h10) HC.out.2)
  have HB := Lib.hid (HB.out.belowS h10)
  have HW := Lib.hid (Below.trans HW.out (h10.mono HW.out.size))
  have HS2 := Lib.hid (And.intro (Kd.C_below HS2.out.1 h10) HS2.out.2)
  have HS4 := Lib.hid (And.intro (Kd.C_below HS4.out.1 h10) HS4.out.2)
  have HS5 := Lib.hid (And.intro (Kd.C_below HS5.out.1 h10) HS5.out.2)
  have HS6 := Lib.hid (And.intro (Kd.C_below HS6.out.1 h10) HS6.out.2)
  have HC9 := Lib.hid (And.intro (Kd.C_below HC9.out.1 h10) HC9.out.2)
  have HB9 := Lib.hid (HB9.out.belowS h10)
  clear h10
  have x0 := HB.out.cell (j := 0) rfl
  have x1 := HB.out.cell (j := 1) rfl
  have x2 := HB.out.cell (j := 2) rfl
  have y0 := HB9.out.cell (j := 0) rfl
  have y1 := HB9.out.cell (j := 1) rfl
  have y2 := HB9.out.cell (j := 2) rfl
  go_wp2_with fail
  clear x0 x1 x2 y0 y1 y2
  have hn : Below w10.heap.size w10 (w10.alloc (.cells #[.int .i64 (-90), .int .i64 90, .int .i64 0] 3)) := (Below.refl _ _).alloc (Nat.le_refl _) _
  have hl := lit3 w10 (-90) 90 0
  have HC := Lib.hid (And.intro (Kd.C_below HC.out.1 hn) HC.out.2)
  have HS4 := Lib.hid (And.intro (Kd.C_below HS4.out.1 hn) HS4.out.2)
  have HS5 := Lib.hid (And.intro (Kd.C_below HS5.out.1 hn) HS5.out.2)
  have HS6 := Lib.hid (And.intro (Kd.C_below HS6.out.1 hn) HS6.out.2)
  have HC9 := Lib.hid (And.intro (Kd.C_below HC9.out.1 hn) HC9.out.2)
  have HS2 := Lib.hid (And.intro (Kd.C_below HS2.out.1 hn) HS2.out.2)
  have HB := Lib.hid (HB.out.belowS hn)
  have HB9 := Lib.hid (HB9.out.belowS hn)
  have HW := Lib.hid (Below.trans HW.out (hn.mono HW.out.size))
  clear hn
  generalize w10.alloc (.cells #[.int .i64 (-90), .int .i64 90, .int .i64 0] 3) = V1 at *
  generalize w10.heap.size = l1 at *
  refine (s_ints V1 B2 (some ⟨l1, 0, none⟩) d2 3 (-90) 90 0 HS2.out.1 hl HS2.out.2 (Nat.le_refl _)).mono ?_
  rintro e v1 ⟨rfl, hd⟩
  clear hl
  have HC := Lib.hid (And.intro (Kd.C_below HC.out.1 hd.below) HC.out.2)
  have HS2 := Lib.hid (And.intro (Kd.C_below HS2.out.1 hd.below) HS2.out.2)
  have HS4 := Lib.hid (And.intro (Kd.C_below HS4.out.1 hd.below) HS4.out.2)
  have HS5 := Lib.hid (And.intro (Kd.C_below HS5.out.1 hd.below) HS5.out.2)
  have HS6 := Lib.hid (And.intro (Kd.C_below HS6.out.1 hd.below) HS6.out.2)
  have HC9 := Lib.hid (And.intro (Kd.C_below HC9.out.1 hd.below) HC9.out.2)
  have HB := Lib.hid (HB.out.belowS hd.below)
  have HB9 := Lib.hid (HB9.out.belowS hd.below)
  have HW := Lib.hid (Below.trans HW.out (hd.below.mono HW.out.size))
  clear hd
  go_wp2_with fail
  have hn : Below v1.heap.size v1 (v1.alloc (.cells #[.int .i64 (-90), .int .i64 90, .int .i64 0] 3)) := (Below.refl _ _).alloc (Nat.le_refl _) _
  have hl := lit3 v1 (-90) 90 0
  have HC := Lib.hid (And.intro (Kd.C_below HC.out.1 hn) HC.out.2)
  have HS2 := Lib.hid (And.intro (Kd.C_below HS2.out.1 hn) HS2.out.2)
  have HS5 := Lib.hid (And.intro (Kd.C_below HS5.out.1 hn) HS5.out.2)
  have HS6 := Lib.hid (And.intro (Kd.C_below HS6.out.1 hn) HS6.out.2)
  have HC9 := Lib.hid (And.intro (Kd.C_below HC9.out.1 hn) HC9.out.2)
  have HS4 := Lib.hid (And.intro (Kd.C_below HS4.out.1 hn) HS4.out.2)
  have HB := Lib.hid (HB.out.belowS hn)
  have HB9 := Lib.hid (HB9.out.belowS hn)
  have HW := Lib.hid (Below.trans HW.out (hn.mono HW.out.size))
  clear hn
  generalize v1.alloc (.cells #[.int .i64 (-90), .int .i64 90, .int .i64 0] 3) = V2 at *
  generalize v1.heap.size = l2 at *
  refine (s_ints V2 B4 (some ⟨l2, 0, none⟩) d4 3 (-90) 90 0 HS4.out.1 hl HS4.out.2 (Nat.le_refl _)).mono ?_
  rintro e v2 ⟨rfl, hd⟩
  clear hl
  have HC := Lib.hid (And.intro (Kd.C_below HC.out.1 hd.below) HC.out.2)
  have HS2 := Lib.hid (And.intro (Kd.C_below HS2.out.1 hd.below) HS2.out.2)
  have HS4 := Lib.hid (And.intro (Kd.C_below HS4.out.1 hd.below) HS4.out.2)
  have HS5 := Lib.hid (And.intro (Kd.C_below HS5.out.1 hd.below) HS5.out.2)
  have HS6 := Lib.hid (And.intro (Kd.C_below HS6.out.1 hd.below) HS6.out.2)
  have HC9 := Lib.hid (And.intro (Kd.C_below HC9.out.1 hd.below) HC9.out.2)
  have HB := Lib.hid (HB.out.belowS hd.below)
  have HB9 := Lib.hid (HB9.out.belowS hd.below)
  have HW := Lib.hid (Below.trans HW.out (hd.below.mono HW.out.size))
  clear hd
  go_wp2_with fail
  have hn : Below v2.heap.size v2 (v2.alloc (.cells #[.int .i64 30, .int .i64 (-30), .int .i64 0] 3)) := (Below.refl _ _).alloc (Nat.le_refl _) _
  have hl := lit3 v2 30 (-30) 0
  have HC := Lib.hid (And.intro (Kd.C_below HC.out.1 hn) HC.out.2)
  have HS2 := Lib.hid (And.intro (Kd.C_below HS2.out.1 hn) HS2.out.2)
  have HS4 := Lib.hid (And.intro (Kd.C_below HS4.out.1 hn) HS4.out.2)
  have HS6 := Lib.hid (And.intro (Kd.C_below HS6.out.1 hn) HS6.out.2)
  have HC9 := Lib.hid (And.intro (Kd.C_below HC9.out.1 hn) HC9.out.2)
  have HS5 := Lib.hid (And.intro (Kd.C_below HS5.out.1 hn) HS5.out.2)
  have HB := Lib.hid (HB.out.belowS hn)
  have HB9 := Lib.hid (HB9.out.belowS hn)
  have HW := Lib.hid (Below.trans HW.out (hn.mono HW.out.size))
  clear hn
  generalize v2.alloc (.cells #[.int .i64 30, .int .i64 (-30), .int .i64 0] 3) = V3 at *
  generalize v2.heap.size = l3 at *
  refine (s_ints V3 B5 (some ⟨l3, 0, none⟩) d5 3 30 (-30) 0 HS5.out.1 hl HS5.out.2 (Nat.le_refl _)).mono ?_
  rintro e v3 ⟨rfl, hd⟩
  clear hl
  have HC := Lib.hid (And.intro (Kd.C_below HC.out.1 hd.below) HC.out.2)
  have HS2 := Lib.hid (And.intro (Kd.C_below HS2.out.1 hd.below) HS2.out.2)
  have HS4 := Lib.hid (And.intro (Kd.C_below HS4.out.1 hd.below) HS4.out.2)
  have HS5 := Lib.hid (And.intro (Kd.C_below HS5.out.1 hd.below) HS5.out.2)
  have HS6 := Lib.hid (And.intro (Kd.C_below HS6.out.1 hd.below) HS6.out.2)
  have HC9 := Lib.hid (And.intro (Kd.C_below HC9.out.1 hd.below) HC9.out.2)
  have HB := Lib.hid (HB.out.belowS hd.below)
  have HB9 := Lib.hid (HB9.out.belowS hd.below)
  have HW := Lib.hid (Below.trans HW.out (hd.below.mono HW.out.size))
  clear hd
  go_wp2_with fail
  have hn : Below v3.heap.size v3 (v3.alloc (.cells #[.int .i64 (-60), .int .i64 60, .int .i64 0] 3)) := (Below.refl _ _).alloc (Nat.le_refl _) _
  have hl := lit3 v3 (-60) 60 0
  have HC := Lib.hid (And.intro (Kd.C_below HC.out.1 hn) HC.out.2)
  have HS2 := Lib.hid (And.intro (Kd.C_below HS2.out.1 hn) HS2.out.2)
  have HS4 := Lib.hid (And.intro (Kd.C_below HS4.out.1 hn) HS4.out.2)
  have HS5 := Lib.hid (And.intro (Kd.C_below HS5.out.1 hn) HS5.out.2)
  have HC9 := Lib.hid (And.intro (Kd.C_below HC9.out.1 hn) HC9.out.2)
  have HS6 := Lib.hid (And.intro (Kd.C_below HS6.out.1 hn) HS6.out.2)
  have HB := Lib.hid (HB.out.belowS hn)
  have HB9 := Lib.hid (HB9.out.belowS hn)
  have HW := Lib.hid (Below.trans HW.out (hn.mono HW.out.size))
  clear hn
  generalize v3.alloc (.cells #[.int .i64 (-60), .int .i64 60, .int .i64 0] 3) = V4 at *
  generalize v3.heap.size = l4 at *
  refine (s_ints V4 B6 (some ⟨l4, 0, none⟩) d6 3 (-60) 60 0 HS6.out.1 hl HS6.out.2 (Nat.le_refl _)).mono ?_
  rintro e v4 ⟨rfl, hd⟩
  clear hl
  have HC := Lib.hid (And.intro (Kd.C_below HC.out.1 hd.below) HC.out.2)
  have HS2 := Lib.hid (And.intro (Kd.C_below HS2.out.1 hd.below) HS2.out.2)
  have HS4 := Lib.hid (And.intro (Kd.C_below HS4.out.1 hd.below) HS4.out.2)
  have HS5 := Lib.hid (And.intro (Kd.C_below HS5.out.1 hd.below) HS5.out.2)
  have HS6 := Lib.hid (And.intro (Kd.C_below HS6.out.1 hd.below) HS6.out.2)
  have HC9 := Lib.hid (And.intro (Kd.C_below HC9.out.1 hd.below) HC9.out.2)
  have HB := Lib.hid (HB.out.belowS hd.below)
  have HB9 := Lib.hid (HB9.out.belowS hd.below)
  have HW := Lib.hid (Below.trans HW.out (hd.below.mono HW.out.size))
  clear hd
  have y0 := HB9.out.cell (j := 0) rfl
  have y1 := HB9.out.cell (j := 1) rfl
  have y2 := HB9.out.cell (j := 2) rfl
  go_wp2_with fail
  clear y0 y1 y2
  refine (s_valid v4 A9 c9 HC9.out.1 HC9.out.2).mono ?_
  rintro e v5 ⟨rfl, h5⟩
  have HC := Lib.hid (And.intro (Kd.C_below HC.out.1 h5) HC.out.2)
  have HB := Lib.hid (HB.out.belowS h5)
  have HW := Lib.hid (Below.trans HW.out (h5.mono HW.out.size))
  clear h5
  go_wp2_with fail
  refine (s_valid0 v5).mono ?_
  rintro e v6 ⟨rfl, h6⟩
  have HC := Lib.hid (And.intro (Kd.C_below HC.out.1 h6) HC.out.2)
  have HB := Lib.hid (HB.out.belowS h6)
  have HW := Lib.hid (Below.trans HW.out (h6.mono HW.out.size))
  clear h6
  have x0 := HB.out.cell (j := 0) rfl
  have x1 := HB.out.cell (j := 1) rfl
  have x2 := HB.out.cell (j := 2) rfl
  obtain ⟨ad, rfl, z0, z1, z2, z3, z4, z5, z6⟩ := at_T27 HC.out.1 1 (by omega) (by omega)
  have hz : rd_T27 [sp0, sp1, sp2] 1 = sp1 := rfl
  rw [hz] at z0 z1 z2 z3 z4 z5 z6
  unfold sp1 at z0 z1 z2 z3 z4 z5 z6
  rw [show (1 : Int).toNat * 7 = 7 from rfl, show ad.add 7 = ⟨ad.block, ad.off + 7, none⟩ from by simp [Addr.add]] at z0 z1 z2 z3 z4 z5 z6
  dsimp only at z0 z1 z2 z3 z4 z5 z6
  clear hz
  go_wp2_with fail
  go_ret
  exact ⟨rfl, HW.out⟩
def airchecklaw24_sane.f : Option Bool := some true
theorem airchecklaw24_sane.calls (r : Bool) (w : World) (h : airchecklaw24_sane.f = some r) : Calls Tryd.prog 5 #[] w fun e w' => e = .returned (.bool r) ∧ Below w.heap.size w w' := by
  obtain rfl := Option.some.inj h
  exact sane_walk w
end Go.Proofs.YtooogaogbffjfaaDoor.Ext
end
