import Derived.Test.YtooogaogbffjfaaMBookKeepsak
/-
  Texts of this claim, one behind the other: what they prove stands above each.
-/
section
/-
  Valid, Post.
-/
set_option linter.unusedVariables false
set_option linter.unusedSimpArgs false
namespace Go.Proofs.Ytooogaogbffjfaa.Ext
open Go.RowKit Go.Proofs.YtooogaogbffjfaaW.PrintWords Go.Proofs.YtooogaogbffjfaaW.PrintLast Go.Proofs.YtooogaogbffjfaaW.PrintMore Go.Proofs.Ytooogaogbffjfaa.PK Go.Proofs.Ytooogaogbffjfaa.Bk
attribute [local go_sem] Oper.semAt_some
def validB (acc : Int) (ps : List S27) (clo : Int) : Bool := okAll acc [] ps && inB acc clo
theorem okAll_len (n : Int) (ps : List S27) : ∀ pre : List S27, okAll n pre ps = true → ps = [] ∨ pre.length + ps.length ≤ 200 := by
  induction ps with
  | nil => intro pre h; exact .inl rfl
  | cons p r ih =>
    intro pre h
    rw [okAll, Bool.and_eq_true] at h
    have h1 := next_len h.1
    rcases ih _ h.2 with rfl | h2
    · right; simp; omega
    · right; simp at h2 ⊢; omega
theorem okAll_200 {n : Int} {ps : List S27} (h : okAll n [] ps = true) : ps.length ≤ 200 := by
  rcases okAll_len n ps [] h with rfl | h2
  · simp
  · simpa using h2
theorem open_yes (acc clo : Int) (A : Option Addr) (c : Nat) (ps : List S27) (w : World) (hr : Kd.C k27 w A ps.length ps) (hn : ps.length ≤ 1000000) (h : okAll acc [] ps = true) (b : Bool) (hb : inB acc clo = b) :
    Calls Try.prog 28 #[.agg #[.int .i64 acc, .slice A ps.length c, .int .i64 clo]] w fun e w' => ∃ B, e = .returned (.tuple #[.pointer (some ⟨B, 0, none⟩), .bool b]) ∧ Ledger w w' B acc clo ps := by
  subst hb
  exact (open_walk acc clo A c ps w hr hn).mono fun e w' h2 => by unfold OpenPost at h2; rw [if_pos h] at h2; exact h2
theorem open_no (acc clo : Int) (A : Option Addr) (c : Nat) (ps : List S27) (w : World) (hr : Kd.C k27 w A ps.length ps) (hn : ps.length ≤ 1000000) (h : okAll acc [] ps = false) :
    Calls Try.prog 28 #[.agg #[.int .i64 acc, .slice A ps.length c, .int .i64 clo]] w fun e w' => e = .returned (.tuple #[.pointer none, .bool false]) ∧ Below w.heap.size w w' :=
  (open_walk acc clo A c ps w hr hn).mono fun e w' h2 => by unfold OpenPost at h2; rw [if_neg (by rw [h]; decide)] at h2; exact h2
set_option maxHeartbeats 1000000 in
theorem Valid_walk (acc clo : Int) (A : Option Addr) (c : Nat) (ps : List S27) (w : World) (hr : Kd.C k27 w A ps.length ps) (hn : ps.length ≤ 1000000) :
    Calls Try.prog 11 #[.agg #[.int .i64 acc, .slice A ps.length c, .int .i64 clo]] w fun e w' => e = .returned (.bool (validB acc ps clo)) ∧ Below w.heap.size w w' := by
  have HR := Lib.hid hr
  clear hr
  cases ho : okAll acc [] ps with
  | false =>
    have HO := Lib.hid ho
    have hv : validB acc ps clo = false := by unfold validB; rw [ho, Bool.false_and]
    rw [hv]
    clear ho hv
    go_enter Try.func11, Try.ntmps11
    go_wp2_with (first | (go_at_call 28; refine (open_no acc clo A c ps _ (Kd.C_alloc HR.out _) hn HO.out).mono ?_; rintro e w2 ⟨rfl, hb2⟩) | fail)
    go_ret
    exact ⟨rfl, Below.trans ((Below.refl _ _).alloc (Nat.le_refl _) _) (hb2.mono (by simp))⟩
  | true =>
    have HO := Lib.hid ho
    obtain ⟨b, hb⟩ : ∃ b, inB acc clo = b := ⟨_, rfl⟩
    have hv : validB acc ps clo = b := by unfold validB; rw [ho, hb, Bool.true_and]
    rw [hv]
    have HB := Lib.hid hb
    clear ho hv hb
    go_enter Try.func11, Try.ntmps11
    go_wp2_with (first | (go_at_call 28; refine (open_yes acc clo A c ps _ (Kd.C_alloc HR.out _) hn HO.out b HB.out).mono ?_; rintro e w2 ⟨B, rfl, hL2⟩) | fail)
    go_ret
    exact ⟨rfl, Below.trans ((Below.refl _ _).alloc (Nat.le_refl _) _) (hL2.1.mono (by simp))⟩
/-- a book in memory is written whole -/
theorem res_facts {w : World} {R : Nat} {t : TypeId} {a0 a1 a2 : Value} (h : Blk w R t [a0, a1, a2]) (v0 v1 v2 : Value) :
    w.cell? ⟨R, 0, none⟩ = some a0 ∧ w.frozen? ⟨R, 0, none⟩ = false ∧ (w.setCell ⟨R, 0, none⟩ v0).cell? ⟨R, 1, none⟩ = some a1 ∧ (w.setCell ⟨R, 0, none⟩ v0).frozen? ⟨R, 1, none⟩ = false ∧
    ((w.setCell ⟨R, 0, none⟩ v0).setCell ⟨R, 1, none⟩ v1).cell? ⟨R, 2, none⟩ = some a2 ∧ ((w.setCell ⟨R, 0, none⟩ v0).setCell ⟨R, 1, none⟩ v1).frozen? ⟨R, 2, none⟩ = false ∧
    (((w.setCell ⟨R, 0, none⟩ v0).setCell ⟨R, 1, none⟩ v1).setCell ⟨R, 2, none⟩ v2).cell? ⟨R, 0, none⟩ = some v0 ∧ (((w.setCell ⟨R, 0, none⟩ v0).setCell ⟨R, 1, none⟩ v1).setCell ⟨R, 2, none⟩ v2).cell? ⟨R, 1, none⟩ = some v1 ∧ (((w.setCell ⟨R, 0, none⟩ v0).setCell ⟨R, 1, none⟩ v1).setCell ⟨R, 2, none⟩ v2).cell? ⟨R, 2, none⟩ = some v2 ∧ Blk (((w.setCell ⟨R, 0, none⟩ v0).setCell ⟨R, 1, none⟩ v1).setCell ⟨R, 2, none⟩ v2) R t [v0, v1, v2] := by
  have h1 := h.set 0 v0
  have h2 := h1.set 1 v1
  have h3 := h2.set 2 v2
  exact ⟨h.cell rfl, h.free 0, h1.cell rfl, h1.free 1, h2.cell rfl, h2.free 2, h3.cell rfl, h3.cell rfl, h3.cell rfl, h3⟩
theorem res_blk (w : World) (a b : Obj) : Blk (((w.alloc a).alloc b).alloc (.cells #[.int .i64 0, .slice none 0 0, .int .i64 0] 24)) (w.heap.size + 1 + 1) 24 [.int .i64 0, .slice none 0 0, .int .i64 0] := by
  have := Blk.new ((w.alloc a).alloc b) 24 [.int .i64 0, .slice none 0 0, .int .i64 0]
  simpa using this
theorem res_below {w w2 : World} {R : Nat} (h : Below w.heap.size w w2) (hR : w.heap.size ≤ R) (v0 v1 v2 : Value) : Below w.heap.size w (((w2.setCell ⟨R, 0, none⟩ v0).setCell ⟨R, 1, none⟩ v1).setCell ⟨R, 2, none⟩ v2) :=
  ((h.setCell (p := ⟨R, 0, none⟩) hR v0).setCell (p := ⟨R, 1, none⟩) hR v1).setCell (p := ⟨R, 2, none⟩) hR v2
theorem below3 (w : World) (a b c : Obj) : Below w.heap.size w (((w.alloc a).alloc b).alloc c) := (((Below.refl _ _).alloc (Nat.le_refl _) _).alloc (by simp) _).alloc (by simp; omega) _
theorem keep3 {w : World} {R : Nat} {a : Addr} {x : Value} (h : a.block ≠ R) (hc : w.cell? a = some x) (v0 v1 v2 : Value) : (((w.setCell ⟨R, 0, none⟩ v0).setCell ⟨R, 1, none⟩ v1).setCell ⟨R, 2, none⟩ v2).cell? a = some x :=
  far_set (b := ⟨R, 2, none⟩) h (far_set (b := ⟨R, 1, none⟩) h (far_set (b := ⟨R, 0, none⟩) h hc))
theorem res_keep {w : World} {R base : Nat} {v : Value} {ps : List S27} {a0 a1 a2 : Value} (h : Kd.R k27 27 w base (fun _ => True) v ps) (hb : Blk w R 24 [a0, a1, a2]) (v0 v1 v2 : Value) : Kd.R k27 27 (((w.setCell ⟨R, 0, none⟩ v0).setCell ⟨R, 1, none⟩ v1).setCell ⟨R, 2, none⟩ v2) base (fun _ => True) v ps := by
  have h1 := hb.set 0 v0
  have h2 := h1.set 1 v1
  exact Kd.R_set (Kd.R_set (Kd.R_set h hb.heap (by decide) 0 v0) h1.heap (by decide) 1 v1) h2.heap (by decide) 2 v2
theorem post_box (w : World) (a c : Obj) (p : S27) {w2 : World} (hb : Below (((w.alloc a).alloc (.cells #[.int .i64 p.f0, .int .i64 p.f1, .int .i64 p.f2, .int .i64 p.f3, .int .i64 p.f4, .int .i64 p.f5, .int .i64 p.f6] 27)).alloc c).heap.size (((w.alloc a).alloc (.cells #[.int .i64 p.f0, .int .i64 p.f1, .int .i64 p.f2, .int .i64 p.f3, .int .i64 p.f4, .int .i64 p.f5, .int .i64 p.f6] 27)).alloc c) w2) :
    w2.cell? ⟨w.heap.size + 1, 0, none⟩ = some (.int .i64 p.f0) ∧ w2.cell? ⟨w.heap.size + 1, 1, none⟩ = some (.int .i64 p.f1) ∧ w2.cell? ⟨w.heap.size + 1, 2, none⟩ = some (.int .i64 p.f2) ∧ w2.cell? ⟨w.heap.size + 1, 3, none⟩ = some (.int .i64 p.f3) ∧ w2.cell? ⟨w.heap.size + 1, 4, none⟩ = some (.int .i64 p.f4) ∧ w2.cell? ⟨w.heap.size + 1, 5, none⟩ = some (.int .i64 p.f5) ∧ w2.cell? ⟨w.heap.size + 1, 6, none⟩ = some (.int .i64 p.f6) := by
  have key (j : Nat) (v : Value) (h : (#[Value.int .i64 p.f0, .int .i64 p.f1, .int .i64 p.f2, .int .i64 p.f3, .int .i64 p.f4, .int .i64 p.f5, .int .i64 p.f6])[j]? = some v) : w2.cell? ⟨w.heap.size + 1, j, none⟩ = some v :=
    keepB hb (c_old (c_new _ _ _ _ _ _ h (by simp)))
  exact ⟨key 0 _ rfl, key 1 _ rfl, key 2 _ rfl, key 3 _ rfl, key 4 _ rfl, key 5 _ rfl, key 6 _ rfl⟩
theorem post_arg (w : World) (b c : Obj) {w2 : World} {acc clo : Int} {A : Option Addr} {n k : Nat} (hb : Below (((w.alloc (.cells #[.int .i64 acc, .slice A n k, .int .i64 clo] 24)).alloc b).alloc c).heap.size (((w.alloc (.cells #[.int .i64 acc, .slice A n k, .int .i64 clo] 24)).alloc b).alloc c) w2) :
    w2.drew.cell? ⟨w.heap.size, 1, none⟩ = some (.slice A n k) := keepB (w2 := w2.drew) (below_drew1 hb) (c_old (c_old (c_new _ _ _ _ _ _ rfl rfl)))
set_option maxRecDepth 100000 in
set_option maxHeartbeats 2000000 in
theorem Post_no1 (acc clo : Int) (A : Option Addr) (c : Nat) (ps : List S27) (p : S27) (w : World) (hr : Kd.C k27 w A ps.length ps) (hn : ps.length ≤ 1000000) (ho : okAll acc [] ps = false) :
    Calls Try.prog 9 #[.agg #[.int .i64 acc, .slice A ps.length c, .int .i64 clo], pv p] w fun e w' => e = .returned (.tuple #[.agg #[.int .i64 0, .slice none 0 0, .int .i64 0], .int .i64 0, .int .i64 240]) ∧ Below w.heap.size w w' := by
  have HR := Lib.hid hr
  have HO := Lib.hid ho
  clear hr ho
  unfold pv
  go_enter Try.func9, Try.ntmps9
  go_wp2_with (first | (go_at_call 28; refine (open_no acc clo A c ps _ (Kd.C_alloc (Kd.C_alloc (Kd.C_alloc HR.out _) _) _) hn HO.out).mono ?_; rintro e w2 ⟨rfl, hb2⟩; have hR := (res_blk w _ _).belowS hb2; obtain ⟨r1, r2, r3, r4, r5, r6, r7, r8, r9, r10⟩ := res_facts hR (.int .i64 0) (.slice none 0 0) (.int .i64 0)) | fail)
  refine bodyPost_ret (results_list (rs := [.cell 4 24, .tmp 5, .tmp 6]) rfl (by simp) (.cell _ _ _ (0, 0) _ rfl r10 Try.underlying24 rfl (by kernel_rfl) (.tmp (.tmp .nil)))) rfl ?_
  exact ⟨rfl, res_below (Below.trans (below3 w _ _ _) (hb2.mono (below3 w _ _ _).size)) (by omega) _ _ _⟩
end Go.Proofs.Ytooogaogbffjfaa.Ext
end
section
/-
  Post, where a ledger was opened.
-/
set_option linter.unusedVariables false
set_option linter.unusedSimpArgs false
namespace Go.Proofs.Ytooogaogbffjfaa.Ext
open Go.RowKit Go.Proofs.YtooogaogbffjfaaW.PrintWords Go.Proofs.YtooogaogbffjfaaW.PrintLast Go.Proofs.YtooogaogbffjfaaW.PrintMore Go.Proofs.Ytooogaogbffjfaa.PK Go.Proofs.Ytooogaogbffjfaa.Bk
attribute [local go_sem] Oper.semAt_some
set_option maxRecDepth 100000 in
set_option maxHeartbeats 4000000 in
theorem Post_no2 (acc clo : Int) (A : Option Addr) (c : Nat) (ps : List S27) (p : S27) (w : World) (hr : Kd.C k27 w A ps.length ps) (hn : ps.length ≤ 1000000) (ho : okAll acc [] ps = true) (hi : inB acc clo = false) :
    Calls Try.prog 9 #[.agg #[.int .i64 acc, .slice A ps.length c, .int .i64 clo], pv p] w fun e w' => e = .returned (.tuple #[.agg #[.int .i64 0, .slice none 0 0, .int .i64 0], .int .i64 0, .int .i64 240]) ∧ Below w.heap.size w w' := by
  have HPS := Lib.hid (okAll_200 ho)
  have HR := Lib.hid hr
  have HO := Lib.hid ho
  have HI := Lib.hid hi
  clear hr ho hi
  unfold pv
  go_enter Try.func9, Try.ntmps9
  go_wp2_with (first | (go_at_call 28; refine (open_yes acc clo A c ps _ (Kd.C_alloc (Kd.C_alloc (Kd.C_alloc HR.out _) _) _) hn HO.out false HI.out).mono ?_; rintro e w2 ⟨B, rfl, hL2⟩; have hR := (res_blk w _ _).belowS hL2.1; obtain ⟨r1, r2, r3, r4, r5, r6, r7, r8, r9, r10⟩ := res_facts hR (.int .i64 0) (.slice none 0 0) (.int .i64 0)) | fail)
  refine bodyPost_ret (results_list (rs := [.cell 4 24, .tmp 5, .tmp 6]) rfl (by simp) (.cell _ _ _ (0, 0) _ rfl r10 Try.underlying24 rfl (by kernel_rfl) (.tmp (.tmp .nil)))) rfl ?_
  exact ⟨rfl, res_below (Below.trans (below3 w _ _ _) (hL2.1.mono (below3 w _ _ _).size)) (by omega) _ _ _⟩
theorem clo_of {acc clo : Int} (h : inB acc clo = true) : 0 ≤ clo ∧ clo ≤ 12 := by
  unfold inB at h
  exact (of_decide_eq_true h).2
set_option maxRecDepth 100000 in
set_option maxHeartbeats 4000000 in
theorem Post_no3 (acc clo : Int) (A : Option Addr) (c : Nat) (ps : List S27) (p : S27) (w : World) (hr : Kd.C k27 w A ps.length ps) (hn : ps.length ≤ 1000000) (ho : okAll acc [] ps = true) (hi : inB acc clo = true) (hp : postB acc clo ps p = false) :
    Calls Try.prog 9 #[.agg #[.int .i64 acc, .slice A ps.length c, .int .i64 clo], pv p] w fun e w' => e = .returned (.tuple #[.agg #[.int .i64 0, .slice none 0 0, .int .i64 0], .int .i64 0, .int .i64 240]) ∧ Below w.heap.size w w' := by
  have HPS := Lib.hid (okAll_200 ho)
  have HR := Lib.hid hr
  have HO := Lib.hid ho
  have HI := Lib.hid hi
  have HP := Lib.hid hp
  clear hr ho hi hp
  unfold pv
  go_enter Try.func9, Try.ntmps9
  go_wp2_with (first | (go_at_call 28; refine (open_yes acc clo A c ps _ (Kd.C_alloc (Kd.C_alloc (Kd.C_alloc HR.out _) _) _) hn HO.out true HI.out).mono ?_; rintro e w2 ⟨B, rfl, hL2⟩; have e0 := hL2.1.block (w.heap.size + 1); have HLL := Lib.hid hL2; have HE := Lib.hid (post_box w _ _ p hL2.1); obtain ⟨x0, x1, x2, x3, x4, x5, x6⟩ := HE.out; clear e0 hL2) | (go_at_call 29; refine (post_walk _ _ B acc clo ps p HLL.out HPS.out (clo_of HI.out) false HP.out).mono ?_; rintro e w3 ⟨rfl, hL3⟩; have hR := (res_blk w _ _).belowS hL3.1; obtain ⟨r1, r2, r3, r4, r5, r6, r7, r8, r9, r10⟩ := res_facts hR (.int .i64 0) (.slice none 0 0) (.int .i64 0)) | fail)
  refine bodyPost_ret (results_list (rs := [.cell 4 24, .tmp 5, .tmp 6]) rfl (by simp) (.cell _ _ _ (0, 0) _ rfl r10 Try.underlying24 rfl (by kernel_rfl) (.tmp (.tmp .nil)))) rfl ?_
  exact ⟨rfl, res_below (Below.trans (below3 w _ _ _) (hL3.1.mono (below3 w _ _ _).size)) (by omega) _ _ _⟩
end Go.Proofs.Ytooogaogbffjfaa.Ext
end
section
/-
  Post, where a posting is taken.
-/
set_option linter.unusedVariables false
set_option linter.unusedSimpArgs false
namespace Go.Proofs.Ytooogaogbffjfaa.Ext
open Go.RowKit Go.Proofs.YtooogaogbffjfaaW.PrintWords Go.Proofs.YtooogaogbffjfaaW.PrintLast Go.Proofs.YtooogaogbffjfaaW.PrintMore Go.Proofs.Ytooogaogbffjfaa.PK Go.Proofs.Ytooogaogbffjfaa.Bk
attribute [local go_sem] Oper.semAt_some
set_option maxRecDepth 100000 in
set_option maxHeartbeats 4000000 in
theorem Post_yes (acc clo : Int) (A : Option Addr) (c : Nat) (ps : List S27) (p : S27) (w : World) (hr : Kd.C k27 w A ps.length ps) (hn : ps.length ≤ 1000000) (ho : okAll acc [] ps = true) (hi : inB acc clo = true) (hp : postB acc clo ps p = true) :
    Calls Try.prog 9 #[.agg #[.int .i64 acc, .slice A ps.length c, .int .i64 clo], pv p] w fun e w' => ∃ v1 : Value, e = .returned (.tuple #[.agg #[.int .i64 acc, v1, .int .i64 clo], .int .i64 (ps.length : Int), .int .i64 0]) ∧ Kd.R k27 27 w' w.heap.size (fun _ => True) v1 (ps ++ [p]) ∧ Below w.heap.size w w' := by
  have HPS := Lib.hid (okAll_200 ho)
  have HR := Lib.hid hr
  have HO := Lib.hid ho
  have HI := Lib.hid hi
  have HP := Lib.hid hp
  clear hr ho hi hp
  unfold pv
  go_enter Try.func9, Try.ntmps9
  go_upto_region 4 with (first | (go_at_call 28; refine (open_yes acc clo A c ps _ (Kd.C_alloc (Kd.C_alloc (Kd.C_alloc HR.out _) _) _) hn HO.out true HI.out).mono ?_; rintro e w2 ⟨B, rfl, hL2⟩; have HLL := Lib.hid hL2; have HE := Lib.hid (post_box w _ _ p hL2.1); obtain ⟨x0, x1, x2, x3, x4, x5, x6⟩ := HE.out; clear hL2) | (go_at_call 29; refine (post_walk _ _ B acc clo ps p HLL.out HPS.out (clo_of HI.out) true HP.out).mono ?_; rintro e w3 ⟨rfl, hL3⟩) | fail)
  replace hL3 : Ledger _ w3 B acc clo (ps ++ [p]) := hL3
  obtain ⟨hb3, hB3, v', hLed, hR', hne, _⟩ := hL3
  have hRb : Blk w3.drew (w.heap.size + 1 + 1) 24 [.int .i64 0, .slice none 0 0, .int .i64 0] := by
    have h := (res_blk w _ _).belowS hb3
    exact h
  have y3 := post_arg w _ _ hb3
  have y0 : w3.drew.cell? ⟨B, 0, none⟩ = some (.int .i64 acc) := hLed.cell rfl
  have y1 : w3.drew.cell? ⟨B, 1, none⟩ = some v' := hLed.cell rfl
  have y2 : w3.drew.cell? ⟨B, 2, none⟩ = some (.int .i64 clo) := hLed.cell rfl
  obtain ⟨a', k', rfl⟩ := Kd.R_slice hR'
  obtain ⟨nn, hnn⟩ : ∃ nn, (ps ++ [p]).length = nn := ⟨_, rfl⟩
  rw [hnn] at y1 hR' hLed
  have HNN := Lib.hid hnn
  clear hnn
  have HBR := Lib.hid (show B ≠ w.heap.size + 1 + 1 from fun e => by simp at hB3; omega)
  have HXR := Lib.hid (show w.heap.size ≠ w.heap.size + 1 + 1 from by omega)
  have hbd := below_drew1 hb3
  have hRd := Kd.R_drew hR'
  have HRR := Lib.hid <| res_facts (w := w3.drew) hRb (.int .i64 acc) (.slice a' nn k') (.int .i64 clo)
  refine start_ (n := 10) (S := fun w' => w'.cell? ⟨B, 0, none⟩ = some (.int .i64 acc) ∧ w'.cell? ⟨B, 1, none⟩ = some (.slice a' nn k') ∧ w'.cell? ⟨B, 2, none⟩ = some (.int .i64 clo) ∧ w'.cell? ⟨w.heap.size, 1, none⟩ = some (.slice A ps.length c)) (ds := []) #[false, false, false, false, false, false, false, false, false, false] (by kernel_rfl) rfl rfl ⟨y0, y1, y2, y3⟩ (fun hHeld => ?_)
  generalize w3.drew = wd at *
  refine pure_ (i := 0) (N := some 23) (v := ?_) (a' := ?_) #[true, false, false, false, false, false, false, false, false, false] rfl rfl (by kernel_rfl) (fun _ _ _ h => h) (Or.inl ⟨by rfl, ?_⟩) ?_ ?_
  rotate_left
  · intro w'
    go_simp
    with_reducible rfl
  rotate_left
  · simp only [Act.put, List.setIfInBounds_toArray, List.set_cons_zero, List.set_cons_succ, i64_w, i32_w]
    rfl
  refine pure_ (i := 1) (N := some 24) (v := ?_) (a' := ?_) #[true, true, false, false, false, false, false, false, false, false] rfl rfl (by kernel_rfl) (fun _ _ _ h => h) (Or.inl ⟨by rfl, ?_⟩) ?_ ?_
  rotate_left
  · intro w'
    go_simp
    with_reducible rfl
  rotate_left
  · simp only [Act.put, List.setIfInBounds_toArray, List.set_cons_zero, List.set_cons_succ, i64_w, i32_w]
    rfl
  refine pure_ (i := 2) (N := some 25) (v := ?_) (a' := ?_) #[true, true, true, false, false, false, false, false, false, false] rfl rfl (by kernel_rfl) (fun _ _ _ h => h) (Or.inl ⟨by rfl, ?_⟩) ?_ ?_
  rotate_left
  · intro w'
    go_simp
    with_reducible rfl
  rotate_left
  · simp only [Act.put, List.setIfInBounds_toArray, List.set_cons_zero, List.set_cons_succ, i64_w, i32_w]
    rfl
  refine pure_ (i := 4) (N := some 27) (v := ?_) (a' := ?_) #[true, true, true, false, true, false, false, false, false, false] rfl rfl (by kernel_rfl) (fun _ _ _ h => h) (Or.inl ⟨by rfl, ?_⟩) ?_ ?_
  rotate_left
  · intro w'
    go_simp
    with_reducible rfl
  rotate_left
  · simp only [Act.put, List.setIfInBounds_toArray, List.set_cons_zero, List.set_cons_succ, i64_w, i32_w]
    rfl
  refine take_ (i := 3) (N := some 26) (v := ?_) (a' := ?_) #[true, true, true, true, true, false, false, false, false, false] rfl rfl (by kernel_rfl) (fun _ _ _ h => h) (Or.inl ⟨by rfl, ?_⟩) hHeld ?_ ?_
  rotate_left
  · rintro w' ⟨s0, s1, s2, s3⟩
    go_simp
    with_reducible rfl
  rotate_left
  · simp only [Act.put, List.setIfInBounds_toArray, List.set_cons_zero, List.set_cons_succ, i64_w, i32_w]
    rfl
  refine take_ (i := 5) (N := some 28) (v := ?_) (a' := ?_) #[true, true, true, true, true, true, false, false, false, false] rfl rfl (by kernel_rfl) (fun _ _ _ h => h) (Or.inl ⟨by rfl, ?_⟩) hHeld ?_ ?_
  rotate_left
  · rintro w' ⟨s0, s1, s2, s3⟩
    go_simp
    with_reducible rfl
  rotate_left
  · simp only [Act.put, List.setIfInBounds_toArray, List.set_cons_zero, List.set_cons_succ, i64_w, i32_w]
    rfl
  refine pure_ (i := 6) (N := some 29) (v := ?_) (a' := ?_) #[true, true, true, true, true, true, true, false, false, false] rfl rfl (by kernel_rfl) (fun _ _ _ h => h) (Or.inl ⟨by rfl, ?_⟩) ?_ ?_
  rotate_left
  · intro w'
    go_simp
    with_reducible rfl
  rotate_left
  · simp only [Act.put, List.setIfInBounds_toArray, List.set_cons_zero, List.set_cons_succ, i64_w, i32_w]
    rfl
  refine one_ (i := 7) (N := none) #[true, true, true, true, true, true, true, true, false, false] rfl rfl (by kernel_rfl) (by decide) (fun K hK => ?_)
  obtain ⟨r1, r2, r3, r4, r5, r6, _, _, _, _⟩ := HRR.out
  refine skip_ (w1 := ?_) (by rfl) rfl ?_ ?_
  rotate_left
  · go_simp
    rfl
  refine hK.out _ _ ⟨keep3 HBR.out (hHeld.1) _ _ _, keep3 HBR.out (hHeld.2.1) _ _ _, keep3 HBR.out (hHeld.2.2.1) _ _ _, keep3 HXR.out (hHeld.2.2.2) _ _ _⟩ (fun hHeld => ?_)
  clear hK K r1 r2 r3 r4 r5 r6
  refine pure_ (i := 8) (N := some 5) (v := ?_) (a' := ?_) #[true, true, true, true, true, true, true, true, true, false] rfl rfl (by kernel_rfl) (fun _ _ _ h => h) (Or.inl ⟨by rfl, ?_⟩) ?_ ?_
  rotate_left
  · intro w'
    go_simp
    with_reducible rfl
  rotate_left
  · simp only [Act.put, List.setIfInBounds_toArray, List.set_cons_zero, List.set_cons_succ, i64_w, i32_w]
    rfl
  refine pure_ (i := 9) (N := some 6) (v := ?_) (a' := ?_) #[true, true, true, true, true, true, true, true, true, true] rfl rfl (by kernel_rfl) (fun _ _ _ h => h) (Or.inl ⟨by rfl, ?_⟩) ?_ ?_
  rotate_left
  · intro w'
    go_simp
    with_reducible rfl
  rotate_left
  · simp only [Act.put, List.setIfInBounds_toArray, List.set_cons_zero, List.set_cons_succ, i64_w, i32_w]
    rfl
  refine done_ (by kernel_rfl) ?_
  go_wp2
  obtain ⟨_, _, _, _, _, _, _, _, _, r10⟩ := HRR.out
  refine bodyPost_ret (results_list (rs := [.cell 4 24, .tmp 5, .tmp 6]) rfl (by simp) (.cell _ _ _ (0, 0) _ rfl r10 Try.underlying24 rfl (by kernel_rfl) (.tmp (.tmp .nil)))) rfl ?_
  refine ⟨_, rfl, ?_, res_below (Below.trans (below3 w _ _ _) (hbd.mono (below3 w _ _ _).size)) (by omega) _ _ _⟩
  exact Kd.R_lower (res_keep hRd hRb _ _ _) (below3 w _ _ _).size
end Go.Proofs.Ytooogaogbffjfaa.Ext
end
section
/-
  Close.
-/
set_option linter.unusedVariables false
set_option linter.unusedSimpArgs false
namespace Go.Proofs.Ytooogaogbffjfaa.Ext
open Go.RowKit Go.Proofs.YtooogaogbffjfaaW.PrintWords Go.Proofs.YtooogaogbffjfaaW.PrintLast Go.Proofs.YtooogaogbffjfaaW.PrintMore Go.Proofs.Ytooogaogbffjfaa.PK Go.Proofs.Ytooogaogbffjfaa.Bk
attribute [local go_sem] Oper.semAt_some
theorem res_blk1 (w : World) (a : Obj) : Blk ((w.alloc a).alloc (.cells #[.int .i64 0, .slice none 0 0, .int .i64 0] 24)) (w.heap.size + 1) 24 [.int .i64 0, .slice none 0 0, .int .i64 0] := by
  have := Blk.new (w.alloc a) 24 [.int .i64 0, .slice none 0 0, .int .i64 0]
  simpa using this
theorem below2 (w : World) (a b : Obj) : Below w.heap.size w ((w.alloc a).alloc b) := ((Below.refl _ _).alloc (Nat.le_refl _) _).alloc (by simp) _
theorem arg_clo (w : World) (b : Obj) {w2 : World} {acc clo : Int} {A : Option Addr} {n k : Nat} (hb : Below ((w.alloc (.cells #[.int .i64 acc, .slice A n k, .int .i64 clo] 24)).alloc b).heap.size ((w.alloc (.cells #[.int .i64 acc, .slice A n k, .int .i64 clo] 24)).alloc b) w2) :
    w2.cell? ⟨w.heap.size, 2, none⟩ = some (.int .i64 clo) := keepB hb (c_old (c_new _ _ _ _ _ _ rfl rfl))
set_option maxRecDepth 100000 in
set_option maxHeartbeats 4000000 in
theorem Close_no1 (acc clo : Int) (A : Option Addr) (c : Nat) (ps : List S27) (month : Int) (w : World) (hr : Kd.C k27 w A ps.length ps) (hn : ps.length ≤ 1000000) (ho : okAll acc [] ps = false) :
    Calls Try.prog 17 #[.agg #[.int .i64 acc, .slice A ps.length c, .int .i64 clo], .int .i64 month] w fun e w' => e = .returned (.tuple #[.agg #[.int .i64 0, .slice none 0 0, .int .i64 0], .int .i64 240]) ∧ Below w.heap.size w w' := by
  have HR := Lib.hid hr
  have HO := Lib.hid ho
  clear hr ho
  go_enter Try.func17, Try.ntmps17
  go_wp2_with (first | (go_at_call 28; refine (open_no acc clo A c ps _ (Kd.C_alloc (Kd.C_alloc HR.out _) _) hn HO.out).mono ?_; rintro e w2 ⟨rfl, hb2⟩; have hR := (res_blk1 w _).belowS hb2; obtain ⟨r1, r2, r3, r4, r5, r6, r7, r8, r9, r10⟩ := res_facts hR (.int .i64 0) (.slice none 0 0) (.int .i64 0)) | fail)
  refine bodyPost_ret (results_list (rs := [.cell 4 24, .tmp 5]) rfl (by simp) (.cell _ _ _ (0, 0) _ rfl r10 Try.underlying24 rfl (by kernel_rfl) (.tmp .nil))) rfl ?_
  exact ⟨rfl, res_below (Below.trans (below2 w _ _) (hb2.mono (below2 w _ _).size)) (by omega) _ _ _⟩
set_option maxRecDepth 100000 in
set_option maxHeartbeats 4000000 in
theorem Close_no2 (acc clo : Int) (A : Option Addr) (c : Nat) (ps : List S27) (month : Int) (w : World) (hr : Kd.C k27 w A ps.length ps) (hn : ps.length ≤ 1000000) (ho : okAll acc [] ps = true) (hi : inB acc clo = false) :
    Calls Try.prog 17 #[.agg #[.int .i64 acc, .slice A ps.length c, .int .i64 clo], .int .i64 month] w fun e w' => e = .returned (.tuple #[.agg #[.int .i64 0, .slice none 0 0, .int .i64 0], .int .i64 240]) ∧ Below w.heap.size w w' := by
  have HR := Lib.hid hr
  have HO := Lib.hid ho
  have HI := Lib.hid hi
  clear hr ho hi
  go_enter Try.func17, Try.ntmps17
  go_wp2_with (first | (go_at_call 28; refine (open_yes acc clo A c ps _ (Kd.C_alloc (Kd.C_alloc HR.out _) _) hn HO.out false HI.out).mono ?_; rintro e w2 ⟨B, rfl, hL2⟩; have hR := (res_blk1 w _).belowS hL2.1; obtain ⟨r1, r2, r3, r4, r5, r6, r7, r8, r9, r10⟩ := res_facts hR (.int .i64 0) (.slice none 0 0) (.int .i64 0)) | fail)
  refine bodyPost_ret (results_list (rs := [.cell 4 24, .tmp 5]) rfl (by simp) (.cell _ _ _ (0, 0) _ rfl r10 Try.underlying24 rfl (by kernel_rfl) (.tmp .nil))) rfl ?_
  exact ⟨rfl, res_below (Below.trans (below2 w _ _) (hL2.1.mono (below2 w _ _).size)) (by omega) _ _ _⟩
set_option maxRecDepth 100000 in
set_option maxHeartbeats 4000000 in
theorem Close_no3 (acc clo : Int) (A : Option Addr) (c : Nat) (ps : List S27) (month : Int) (w : World) (hr : Kd.C k27 w A ps.length ps) (hn : ps.length ≤ 1000000) (ho : okAll acc [] ps = true) (hi : inB acc clo = true) (hm : month ≠ clo) :
    Calls Try.prog 17 #[.agg #[.int .i64 acc, .slice A ps.length c, .int .i64 clo], .int .i64 month] w fun e w' => e = .returned (.tuple #[.agg #[.int .i64 0, .slice none 0 0, .int .i64 0], .int .i64 240]) ∧ Below w.heap.size w w' := by
  have HR := Lib.hid hr
  have HO := Lib.hid ho
  have HI := Lib.hid hi
  clear hr ho hi
  go_enter Try.func17, Try.ntmps17
  go_wp2_with (first | (go_at_call 28; refine (open_yes acc clo A c ps _ (Kd.C_alloc (Kd.C_alloc HR.out _) _) hn HO.out true HI.out).mono ?_; rintro e w2 ⟨B, rfl, hL2⟩; have hac := arg_clo w _ hL2.1; have hR := (res_blk1 w _).belowS hL2.1; obtain ⟨r1, r2, r3, r4, r5, r6, r7, r8, r9, r10⟩ := res_facts hR (.int .i64 0) (.slice none 0 0) (.int .i64 0)) | fail)
  refine bodyPost_ret (results_list (rs := [.cell 4 24, .tmp 5]) rfl (by simp) (.cell _ _ _ (0, 0) _ rfl r10 Try.underlying24 rfl (by kernel_rfl) (.tmp .nil))) rfl ?_
  exact ⟨rfl, res_below (Below.trans (below2 w _ _) (hL2.1.mono (below2 w _ _).size)) (by omega) _ _ _⟩
set_option maxRecDepth 100000 in
set_option maxHeartbeats 4000000 in
theorem Close_no4 (acc clo : Int) (A : Option Addr) (c : Nat) (ps : List S27) (month : Int) (w : World) (hr : Kd.C k27 w A ps.length ps) (hn : ps.length ≤ 1000000) (ho : okAll acc [] ps = true) (hi : inB acc clo = true) (hm : clo = month) (hc : decide (0 ≤ clo ∧ clo ≤ 11) = false) :
    Calls Try.prog 17 #[.agg #[.int .i64 acc, .slice A ps.length c, .int .i64 clo], .int .i64 month] w fun e w' => e = .returned (.tuple #[.agg #[.int .i64 0, .slice none 0 0, .int .i64 0], .int .i64 240]) ∧ Below w.heap.size w w' := by
  have HR := Lib.hid hr
  have HO := Lib.hid ho
  obtain rfl := hm
  have HI := Lib.hid hi
  have HC := Lib.hid hc
  clear hr ho hi hc
  go_enter Try.func17, Try.ntmps17
  go_wp2_with (first | (go_at_call 28; refine (open_yes acc clo A c ps _ (Kd.C_alloc (Kd.C_alloc HR.out _) _) hn HO.out true HI.out).mono ?_; rintro e w2 ⟨B, rfl, hL2⟩; have hac := arg_clo w _ hL2.1) | (go_at_call 32; (with_reducible refine (isIn_walk' clo 0 11 false HC.out _).mono ?_); rintro e w4 ⟨rfl, hd4⟩; have hb4 := Below.trans hL2.1 (hd4.below.mono hL2.1.size); have hR := (res_blk1 w _).belowS hb4; obtain ⟨r1, r2, r3, r4, r5, r6, r7, r8, r9, r10⟩ := res_facts hR (.int .i64 0) (.slice none 0 0) (.int .i64 0)) | fail)
  refine bodyPost_ret (results_list (rs := [.cell 4 24, .tmp 5]) rfl (by simp) (.cell _ _ _ (0, 0) _ rfl r10 Try.underlying24 rfl (by kernel_rfl) (.tmp .nil))) rfl ?_
  exact ⟨rfl, res_below (Below.trans (below2 w _ _) (hb4.mono (below2 w _ _).size)) (by omega) _ _ _⟩
theorem led_own {ws w : World} {B : Nat} {acc clo : Int} {ps : List S27} (h : Ledger ws w B acc clo ps) : ∃ (a' : Option Addr) (k' nn : Nat), ps.length = nn ∧ Led w B acc (.slice a' nn k') clo (backs ps) ∧ Kd.R k27 27 w ws.heap.size (fun _ => True) (.slice a' nn k') ps ∧ some B ≠ (Value.slice a' nn k').ownBlock := by
  obtain ⟨_, _, v, h1, h2, h3, _⟩ := h
  obtain ⟨a', k', rfl⟩ := Kd.R_slice h2
  exact ⟨a', k', _, rfl, h1, h2, h3⟩
set_option maxRecDepth 100000 in
set_option maxHeartbeats 4000000 in
theorem Close_yes (acc clo : Int) (A : Option Addr) (c : Nat) (ps : List S27) (w : World) (hr : Kd.C k27 w A ps.length ps) (hn : ps.length ≤ 1000000) (ho : okAll acc [] ps = true) (hi : inB acc clo = true) (hc : decide (0 ≤ clo ∧ clo ≤ 11) = true) :
    Calls Try.prog 17 #[.agg #[.int .i64 acc, .slice A ps.length c, .int .i64 clo], .int .i64 clo] w fun e w' => ∃ v1 : Value, e = .returned (.tuple #[.agg #[.int .i64 acc, v1, .int .i64 (clo + 1)], .int .i64 0]) ∧ Kd.R k27 27 w' w.heap.size (fun _ => True) v1 ps ∧ Below w.heap.size w w' := by
  obtain ⟨d, hd⟩ : ∃ d, clo + 1 = d := ⟨_, rfl⟩
  have hw : IntKind.i64.wrap (clo + 1) = d := by have := of_decide_eq_true hc; rw [IntWalk.i64_in _ (by omega)]; exact hd
  rw [hd]
  have HR := Lib.hid hr
  have HO := Lib.hid ho
  have HI := Lib.hid hi
  have HC := Lib.hid hc
  clear hr ho hi hc hd
  go_enter Try.func17, Try.ntmps17
  go_upto_region 4 with (first | (go_at_call 28; refine (open_yes acc clo A c ps _ (Kd.C_alloc (Kd.C_alloc HR.out _) _) hn HO.out true HI.out).mono ?_; rintro e w2 ⟨B, rfl, hL2⟩; have hac := arg_clo w _ hL2.1) | (go_at_call 32; (with_reducible refine (isIn_walk' clo 0 11 true HC.out _).mono ?_); rintro e w4 ⟨rfl, hd4⟩; have hac4 := keepB hd4.below hac; have HL4 := Lib.hid (hL2.below hd4.below)) | fail)
  clear hL2 hac hac4
  have HB := Lib.hid HL4.out.2.1
  have HW := Lib.hid HL4.out.1
  obtain ⟨a', k', nn, hnn, hLed, hR', hne⟩ := led_own HL4.out
  have HNN := Lib.hid hnn
  have HRR := Lib.hid hR'
  have HNE := Lib.hid hne
  have hB2 : w4.cell? ⟨B, 2, none⟩ = some (.int .i64 clo) := hLed.cell rfl
  have hF2 : w4.frozen? ⟨B, 2, none⟩ = false := hLed.free 2
  have hS := hLed.set 2 (.int .i64 d)
  have y0 : (w4.setCell ⟨B, 2, none⟩ (.int .i64 d)).cell? ⟨B, 0, none⟩ = some (.int .i64 acc) := hS.cell rfl
  have y1 : (w4.setCell ⟨B, 2, none⟩ (.int .i64 d)).cell? ⟨B, 1, none⟩ = some (.slice a' nn k') := hS.cell rfl
  have y2 : (w4.setCell ⟨B, 2, none⟩ (.int .i64 d)).cell? ⟨B, 2, none⟩ = some (.int .i64 d) := hS.cell rfl
  have hBR : w.heap.size + 1 ≠ B := by have := HB.out; simp at this; omega
  have hRb : Blk (w4.setCell ⟨B, 2, none⟩ (.int .i64 d)) (w.heap.size + 1) 24 [.int .i64 0, .slice none 0 0, .int .i64 0] := by
    have h := (res_blk1 w _).belowS HW.out
    exact h.set_other ⟨B, 2, none⟩ hBR _
  have HX := Lib.hid hRb
  have HY := Lib.hid hLed
  have hre := res_facts hRb (.int .i64 acc) (.slice a' nn k') (.int .i64 d)
  have HRE := Lib.hid hre
  obtain ⟨r1, r2, r3, r4, r5, r6, r7, r8, r9, r10⟩ := hre
  clear hS hLed hRb hne hR' hnn
  go_wp2
  obtain ⟨_, _, _, _, _, _, _, _, _, r10⟩ := HRE.out
  refine bodyPost_ret (results_list (rs := [.cell 4 24, .tmp 5]) rfl (by simp) (.cell _ _ _ (0, 0) _ rfl r10 Try.underlying24 rfl (by kernel_rfl) (.tmp .nil))) rfl ?_
  have hbw : Below w.heap.size w (w4.setCell ⟨B, 2, none⟩ (.int .i64 d)) := (Below.trans (below2 w _ _) (HW.out.mono (below2 w _ _).size)).setCell (p := ⟨B, 2, none⟩) (by have := HB.out; simp at this; show w.heap.size ≤ B; omega) _
  refine ⟨_, rfl, ?_, res_below hbw (by omega) _ _ _⟩
  exact Kd.R_lower (res_keep (Kd.R_set HRR.out HY.out.heap (by decide) 2 _) HX.out _ _ _) (below2 w _ _).size
end Go.Proofs.Ytooogaogbffjfaa.Ext
end
section
/-
  Dispute: what is refused ahead of the postings.
-/
set_option linter.unusedVariables false
set_option linter.unusedSimpArgs false
namespace Go.Proofs.Ytooogaogbffjfaa.Ext
open Go.RowKit Go.Proofs.YtooogaogbffjfaaW.PrintWords Go.Proofs.YtooogaogbffjfaaW.PrintLast Go.Proofs.YtooogaogbffjfaaW.PrintMore Go.Proofs.Ytooogaogbffjfaa.PK Go.Proofs.Ytooogaogbffjfaa.Bk
attribute [local go_sem] Oper.semAt_some
theorem arg_ps (w : World) (b : Obj) {w2 : World} {acc clo : Int} {A : Option Addr} {n k : Nat} (hb : Below ((w.alloc (.cells #[.int .i64 acc, .slice A n k, .int .i64 clo] 24)).alloc b).heap.size ((w.alloc (.cells #[.int .i64 acc, .slice A n k, .int .i64 clo] 24)).alloc b) w2) :
    w2.cell? ⟨w.heap.size, 1, none⟩ = some (.slice A n k) := keepB hb (c_old (c_new _ _ _ _ _ _ rfl rfl))
theorem open_yes' (acc clo : Int) (A : Option Addr) (c n : Nat) (ps : List S27) (hl : ps.length = n) (w : World) (hr : Kd.C k27 w A n ps) (hn : n ≤ 1000000) (h : okAll acc [] ps = true) (b : Bool) (hb : inB acc clo = b) :
    Calls Try.prog 28 #[.agg #[.int .i64 acc, .slice A n c, .int .i64 clo]] w fun e w' => ∃ B, e = .returned (.tuple #[.pointer (some ⟨B, 0, none⟩), .bool b]) ∧ Ledger w w' B acc clo ps := by
  subst hl
  exact open_yes acc clo A c ps w hr hn h b hb
theorem open_no' (acc clo : Int) (A : Option Addr) (c n : Nat) (ps : List S27) (hl : ps.length = n) (w : World) (hr : Kd.C k27 w A n ps) (hn : n ≤ 1000000) (h : okAll acc [] ps = false) :
    Calls Try.prog 28 #[.agg #[.int .i64 acc, .slice A n c, .int .i64 clo]] w fun e w' => e = .returned (.tuple #[.pointer none, .bool false]) ∧ Below w.heap.size w w' := by
  subst hl
  exact open_no acc clo A c ps w hr hn h
set_option maxRecDepth 100000 in
set_option maxHeartbeats 4000000 in
theorem Dispute_no1 (acc clo : Int) (A : Option Addr) (c n : Nat) (ps : List S27) (hl : ps.length = n) (i day amount : Int) (w : World) (hr : Kd.C k27 w A n ps) (hn : n ≤ 1000000) (ho : okAll acc [] ps = false) :
    Calls Try.prog 15 #[.agg #[.int .i64 acc, .slice A n c, .int .i64 clo], .int .i64 i, .int .i64 day, .int .i64 amount] w fun e w' => e = .returned (.tuple #[.agg #[.int .i64 0, .slice none 0 0, .int .i64 0], .int .i64 240]) ∧ Below w.heap.size w w' := by
  have HR := Lib.hid hr
  have HN := Lib.hid hn
  have HL := Lib.hid hl
  have HO := Lib.hid ho
  clear hr ho hl hn
  go_enter Try.func15, Try.ntmps15
  go_wp2_with (first | (go_at_call 28; refine (open_no' acc clo A c n ps HL.out _ (Kd.C_alloc (Kd.C_alloc HR.out _) _) HN.out HO.out).mono ?_; rintro e w2 ⟨rfl, hb2⟩; have hR := (res_blk1 w _).belowS hb2; obtain ⟨r1, r2, r3, r4, r5, r6, r7, r8, r9, r10⟩ := res_facts hR (.int .i64 0) (.slice none 0 0) (.int .i64 0)) | fail)
  refine bodyPost_ret (results_list (rs := [.cell 8 24, .tmp 9]) rfl (by simp) (.cell _ _ _ (0, 0) _ rfl r10 Try.underlying24 rfl (by kernel_rfl) (.tmp .nil))) rfl ?_
  exact ⟨rfl, res_below (Below.trans (below2 w _ _) (hb2.mono (below2 w _ _).size)) (by omega) _ _ _⟩
set_option maxRecDepth 100000 in
set_option maxHeartbeats 4000000 in
theorem Dispute_no2 (acc clo : Int) (A : Option Addr) (c n : Nat) (ps : List S27) (hl : ps.length = n) (i day amount : Int) (w : World) (hr : Kd.C k27 w A n ps) (hn : n ≤ 1000000) (ho : okAll acc [] ps = true) (hi : inB acc clo = false) :
    Calls Try.prog 15 #[.agg #[.int .i64 acc, .slice A n c, .int .i64 clo], .int .i64 i, .int .i64 day, .int .i64 amount] w fun e w' => e = .returned (.tuple #[.agg #[.int .i64 0, .slice none 0 0, .int .i64 0], .int .i64 240]) ∧ Below w.heap.size w w' := by
  have HR := Lib.hid hr
  have HN := Lib.hid hn
  have HL := Lib.hid hl
  have HO := Lib.hid ho
  have HI := Lib.hid hi
  clear hr ho hi hl hn
  go_enter Try.func15, Try.ntmps15
  go_wp2_with (first | (go_at_call 28; refine (open_yes' acc clo A c n ps HL.out _ (Kd.C_alloc (Kd.C_alloc HR.out _) _) HN.out HO.out false HI.out).mono ?_; rintro e w2 ⟨B, rfl, hL2⟩; have hR := (res_blk1 w _).belowS hL2.1; obtain ⟨r1, r2, r3, r4, r5, r6, r7, r8, r9, r10⟩ := res_facts hR (.int .i64 0) (.slice none 0 0) (.int .i64 0)) | fail)
  refine bodyPost_ret (results_list (rs := [.cell 8 24, .tmp 9]) rfl (by simp) (.cell _ _ _ (0, 0) _ rfl r10 Try.underlying24 rfl (by kernel_rfl) (.tmp .nil))) rfl ?_
  exact ⟨rfl, res_below (Below.trans (below2 w _ _) (hL2.1.mono (below2 w _ _).size)) (by omega) _ _ _⟩
set_option maxRecDepth 100000 in
set_option maxHeartbeats 4000000 in
theorem Dispute_no3 (acc clo : Int) (A : Option Addr) (c n : Nat) (ps : List S27) (hl : ps.length = n) (i day amount : Int) (w : World) (hr : Kd.C k27 w A n ps) (hn : n ≤ 1000000) (ho : okAll acc [] ps = true) (hi : inB acc clo = true) (h0 : decide (i < 0) = true) :
    Calls Try.prog 15 #[.agg #[.int .i64 acc, .slice A n c, .int .i64 clo], .int .i64 i, .int .i64 day, .int .i64 amount] w fun e w' => e = .returned (.tuple #[.agg #[.int .i64 0, .slice none 0 0, .int .i64 0], .int .i64 240]) ∧ Below w.heap.size w w' := by
  have HR := Lib.hid hr
  have HN := Lib.hid hn
  have HL := Lib.hid hl
  have HO := Lib.hid ho
  have HI := Lib.hid hi
  clear hr ho hi hl hn
  go_enter Try.func15, Try.ntmps15
  go_wp2_with (first | (go_at_call 28; refine (open_yes' acc clo A c n ps HL.out _ (Kd.C_alloc (Kd.C_alloc HR.out _) _) HN.out HO.out true HI.out).mono ?_; rintro e w2 ⟨B, rfl, hL2⟩; have hR := (res_blk1 w _).belowS hL2.1; obtain ⟨r1, r2, r3, r4, r5, r6, r7, r8, r9, r10⟩ := res_facts hR (.int .i64 0) (.slice none 0 0) (.int .i64 0)) | fail)
  refine bodyPost_ret (results_list (rs := [.cell 8 24, .tmp 9]) rfl (by simp) (.cell _ _ _ (0, 0) _ rfl r10 Try.underlying24 rfl (by kernel_rfl) (.tmp .nil))) rfl ?_
  exact ⟨rfl, res_below (Below.trans (below2 w _ _) (hL2.1.mono (below2 w _ _).size)) (by omega) _ _ _⟩
set_option maxRecDepth 100000 in
set_option maxHeartbeats 4000000 in
theorem Dispute_no4 (acc clo : Int) (A : Option Addr) (c n : Nat) (ps : List S27) (hl : ps.length = n) (i day amount : Int) (w : World) (hr : Kd.C k27 w A n ps) (hn : n ≤ 1000000) (ho : okAll acc [] ps = true) (hi : inB acc clo = true) (h0 : decide (i < 0) = false) (h1 : decide ((n : Int) ≤ i) = true) :
    Calls Try.prog 15 #[.agg #[.int .i64 acc, .slice A n c, .int .i64 clo], .int .i64 i, .int .i64 day, .int .i64 amount] w fun e w' => e = .returned (.tuple #[.agg #[.int .i64 0, .slice none 0 0, .int .i64 0], .int .i64 240]) ∧ Below w.heap.size w w' := by
  have HR := Lib.hid hr
  have HN := Lib.hid hn
  have HL := Lib.hid hl
  have HO := Lib.hid ho
  have HI := Lib.hid hi
  clear hr ho hi hl hn
  go_enter Try.func15, Try.ntmps15
  go_wp2_with (first | (go_at_call 28; refine (open_yes' acc clo A c n ps HL.out _ (Kd.C_alloc (Kd.C_alloc HR.out _) _) HN.out HO.out true HI.out).mono ?_; rintro e w2 ⟨B, rfl, hL2⟩; have hps := arg_ps w _ hL2.1; have hR := (res_blk1 w _).belowS hL2.1; obtain ⟨r1, r2, r3, r4, r5, r6, r7, r8, r9, r10⟩ := res_facts hR (.int .i64 0) (.slice none 0 0) (.int .i64 0)) | fail)
  refine bodyPost_ret (results_list (rs := [.cell 8 24, .tmp 9]) rfl (by simp) (.cell _ _ _ (0, 0) _ rfl r10 Try.underlying24 rfl (by kernel_rfl) (.tmp .nil))) rfl ?_
  exact ⟨rfl, res_below (Below.trans (below2 w _ _) (hL2.1.mono (below2 w _ _).size)) (by omega) _ _ _⟩
set_option maxRecDepth 100000 in
set_option maxHeartbeats 4000000 in
theorem Dispute_no5 (acc clo : Int) (A : Option Addr) (c n : Nat) (ps : List S27) (hl : ps.length = n) (i day amount : Int) (w : World) (hr : Kd.C k27 w A n ps) (hn : n ≤ 1000000) (ho : okAll acc [] ps = true) (hi : inB acc clo = true) (h0 : decide (i < 0) = false) (h1 : decide ((n : Int) ≤ i) = false) (hc : decide (0 ≤ amount ∧ amount ≤ 1000000000000) = false) :
    Calls Try.prog 15 #[.agg #[.int .i64 acc, .slice A n c, .int .i64 clo], .int .i64 i, .int .i64 day, .int .i64 amount] w fun e w' => e = .returned (.tuple #[.agg #[.int .i64 0, .slice none 0 0, .int .i64 0], .int .i64 240]) ∧ Below w.heap.size w w' := by
  have HR := Lib.hid hr
  have HN := Lib.hid hn
  have HL := Lib.hid hl
  have HO := Lib.hid ho
  have HI := Lib.hid hi
  have HC := Lib.hid hc
  clear hr ho hi hl hn hc
  go_enter Try.func15, Try.ntmps15
  go_wp2_with (first | (go_at_call 28; refine (open_yes' acc clo A c n ps HL.out _ (Kd.C_alloc (Kd.C_alloc HR.out _) _) HN.out HO.out true HI.out).mono ?_; rintro e w2 ⟨B, rfl, hL2⟩; have hps := arg_ps w _ hL2.1) | (go_at_call 32; (with_reducible refine (isIn_walk' amount 0 1000000000000 false HC.out _).mono ?_); rintro e w4 ⟨rfl, hd4⟩; have hb4 := Below.trans hL2.1 (hd4.below.mono hL2.1.size); have hR := (res_blk1 w _).belowS hb4; obtain ⟨r1, r2, r3, r4, r5, r6, r7, r8, r9, r10⟩ := res_facts hR (.int .i64 0) (.slice none 0 0) (.int .i64 0)) | fail)
  refine bodyPost_ret (results_list (rs := [.cell 8 24, .tmp 9]) rfl (by simp) (.cell _ _ _ (0, 0) _ rfl r10 Try.underlying24 rfl (by kernel_rfl) (.tmp .nil))) rfl ?_
  exact ⟨rfl, res_below (Below.trans (below2 w _ _) (hb4.mono (below2 w _ _).size)) (by omega) _ _ _⟩
end Go.Proofs.Ytooogaogbffjfaa.Ext
end
