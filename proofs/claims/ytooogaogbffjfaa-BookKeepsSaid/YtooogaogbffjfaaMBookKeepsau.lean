import Derived.Test.YtooogaogbffjfaaMBookKeepsas
import Derived.Test.YtooogaogbffjfaaMBookKeepsat
import Derived.Test.YtooogaogbffjfaaMBookKeepsap
/-
  Texts of this claim, one behind the other: what they prove stands above each.
-/
section
/-
  The reference's Post: its contract.
-/
set_option linter.unusedVariables false
set_option linter.unusedSimpArgs false
namespace Go.Proofs.Ytooogaogbffjfaa.Bk
open Go.RowKit Go.Shelf Go.Proofs.YtooogaogbffjfaaW.PrintWords Go.Proofs.YtooogaogbffjfaaW.PrintLast Go.Proofs.YtooogaogbffjfaaW.PrintMore Go.Proofs.Ytooogaogbffjfaa.PK Go.Proofs.Ytooogaogbffjfaa.PB Go.Proofs.Ytooogaogbffjfaa.Ext
theorem okAll_snoc (n : Int) (l : List S27) (p : S27) : ∀ pre : List S27, okAll n pre (l ++ [p]) = (okAll n pre l && nextB n (pre ++ l) p) := by
  induction l with
  | nil => intro pre; simp [okAll]
  | cons q r ih =>
    intro pre
    rw [List.cons_append, okAll, okAll, ih, List.append_assoc, Bool.and_assoc]
    rfl
theorem valid_snoc (acc clo : Int) (l : List S27) (p : S27) : validB acc (l ++ [p]) clo = (validB acc l clo && nextB acc l p) := by
  unfold validB
  rw [okAll_snoc, List.nil_append]
  cases okAll acc [] l <;> cases nextB acc l p <;> cases inB acc clo <;> rfl
theorem valid_acc {acc clo : Int} {ps : List S27} (h : validB acc ps clo = true) : 2 ≤ acc ∧ acc ≤ 16 := by
  unfold validB at h
  rw [Bool.and_eq_true] at h
  exact acc_of h.2
theorem valid_clo {acc clo : Int} {ps : List S27} (h : validB acc ps clo = true) : 0 ≤ clo ∧ clo ≤ 12 := by
  unfold validB at h
  rw [Bool.and_eq_true] at h
  exact clo_of h.2
theorem valid_len {acc clo : Int} {ps : List S27} (h : validB acc ps clo = true) : ps.length ≤ 200 := by
  unfold validB at h
  rw [Bool.and_eq_true] at h
  exact okAll_200 h.1
theorem valid_formed {acc clo : Int} {ps : List S27} (h : validB acc ps clo = true) : ∀ p ∈ ps, formedB acc p = true := by
  unfold validB at h
  rw [Bool.and_eq_true] at h
  exact okAll_formed ps [] h.1
theorem valid_book1 {acc clo : Int} {ps : List S27} (h : validB acc ps clo = true) : ∀ p ∈ ps, Book1 p := fun p hp => book1_of (valid_acc h) (valid_formed h p hp)
theorem refPost_is (k : Nat) (acc clo : Int) (ps : List S27) (p : S27) (hk : 1000 ≤ k) (hn : ps.length ≤ 999999) :
    aircheckref24_Post.f k acc ps clo p.f0 p.f1 p.f2 p.f3 p.f4 p.f5 p.f6 = some (postF acc ps clo p) := by
  unfold aircheckref24_Post.f
  rw [Option.bind_some, if_pos (by simp; omega), Option.bind_some, Option.bind_some, if_pos (by simp; omega), Option.bind_some, refValid_is k acc clo ps hk (by omega), Option.bind_some, List.nil_append, refValid_is k acc clo _ hk (by simp; omega), Option.bind_some]
  unfold postF postB
  cases hv : validB acc ps clo with
  | false => simp
  | true =>
    rw [if_pos rfl, valid_snoc, hv, Bool.true_and]
    have hc := valid_clo hv
    have hw : wrap64 (30 * clo) = 30 * clo := by unfold wrap64; omega
    rw [hw]
    cases nextB acc ps p with
    | false => simp
    | true =>
      by_cases hd : p.f1 < 30 * clo
      · rw [if_pos rfl, if_pos hd, decide_eq_false (show ¬ 30 * clo ≤ p.f1 by omega)]; rfl
      · rw [if_pos rfl, if_neg hd, decide_eq_true (show 30 * clo ≤ p.f1 by omega)]; rfl
end Go.Proofs.Ytooogaogbffjfaa.Bk
namespace Go.Proofs.Ytooogaogbffjfaa.Ext
open Go.RowKit Go.Shelf Go.Proofs.YtooogaogbffjfaaW.PrintWords Go.Proofs.YtooogaogbffjfaaW.PrintLast Go.Proofs.YtooogaogbffjfaaW.PrintMore Go.Proofs.Ytooogaogbffjfaa.PK Go.Proofs.Ytooogaogbffjfaa.Bk Go.Proofs.Ytooogaogbffjfaa.PB
theorem rPost_walk (acc clo : Int) (A : Option Addr) (n c : Nat) (ps : List S27) (hl : ps.length = n) (p : S27) (r : Int × List S27 × Int × Int × Int) (hr : postF acc ps clo p = r) (w : World) (hC : Kd.C k27 w A n ps) (hc : n ≤ c) (hn : n ≤ 999999) :
    Calls Try.prog 10 #[.agg #[.int .i64 acc, .slice A n c, .int .i64 clo], .agg #[.int .i64 p.f0, .int .i64 p.f1, .int .i64 p.f2, .int .i64 p.f3, .int .i64 p.f4, .int .i64 p.f5, .int .i64 p.f6]] w fun e w' => ∃ (A' : Option Addr) (c' n' : Nat), r.2.1.length = n' ∧ e = .returned (.tuple #[.agg #[.int .i64 r.1, .slice A' n' c', .int .i64 r.2.2.1], .int .i64 r.2.2.2.1, .int .i64 r.2.2.2.2]) ∧ Kd.R k27 27 w' w.heap.size (fun _ => True) (.slice A' n' c') r.2.1 ∧ Below w.heap.size w w' := by
  subst hl
  refine (aircheckref24_Post.calls 100000 acc A c ps clo p.f0 p.f1 p.f2 p.f3 p.f4 p.f5 p.f6 r.1 r.2.1 r.2.2.1 r.2.2.2.1 r.2.2.2.2 w hC hc (by rw [refPost_is _ _ _ _ p (by omega) hn, hr])).mono ?_
  rintro e w' ⟨v, he, hR, hb⟩
  obtain ⟨A', c', rfl⟩ := Kd.R_slice hR
  exact ⟨A', c', _, rfl, he, hR, hb⟩
end Go.Proofs.Ytooogaogbffjfaa.Ext
end
section
/-
  The reference's Dispute, walked by hand.
-/
set_option linter.unusedVariables false
set_option linter.unusedSimpArgs false
namespace Go.Proofs.Ytooogaogbffjfaa.Ext
open Go.RowKit Go.Shelf Go.Proofs.YtooogaogbffjfaaW.PrintWords Go.Proofs.YtooogaogbffjfaaW.PrintLast Go.Proofs.YtooogaogbffjfaaW.PrintMore Go.Proofs.Ytooogaogbffjfaa.PK Go.Proofs.Ytooogaogbffjfaa.Bk Go.Proofs.Ytooogaogbffjfaa.PB
attribute [local go_sem] Oper.semAt_some
theorem gb_cells (w : World) (acc clo : Int) (A : Option Addr) (n c : Nat) (o : Obj) {w2 : World} (hb : Below ((w.alloc (.cells #[.int .i64 acc, .slice A n c, .int .i64 clo] 24)).alloc o).heap.size ((w.alloc (.cells #[.int .i64 acc, .slice A n c, .int .i64 clo] 24)).alloc o) w2) : Blk w2 w.heap.size 24 [.int .i64 acc, .slice A n c, .int .i64 clo] := ((Blk.newA w _ _ _ rfl).alloc o).belowS hb
set_option maxRecDepth 100000 in
set_option maxHeartbeats 4000000 in
theorem rDisp_err (acc clo : Int) (A : Option Addr) (n c : Nat) (ps : List S27) (hl : ps.length = n) (i day amount : Int) (hc2 : ¬ ((0 ≤ i ∧ i < (n : Int)) ∧ (0 ≤ amount ∧ amount ≤ 1000000000000))) (w : World) :
    Calls Try.prog 16 #[.agg #[.int .i64 acc, .slice A n c, .int .i64 clo], .int .i64 i, .int .i64 day, .int .i64 amount] w fun e w' => e = .returned (.tuple #[.agg #[.int .i64 0, .slice none 0 0, .int .i64 0], .int .i64 240]) ∧ Below w.heap.size w w' := by
  have hR := res_blk1 w (.cells #[.int .i64 acc, .slice A n c, .int .i64 clo] 24)
  have hb2 := below2 w (.cells #[.int .i64 acc, .slice A n c, .int .i64 clo] 24) (.cells #[.int .i64 0, .slice none 0 0, .int .i64 0] 24)
  have HR := Lib.hid hR
  have HB2 := Lib.hid hb2
  have HG := Lib.hid (gb_cells w acc clo A n c (.cells #[.int .i64 0, .slice none 0 0, .int .i64 0] 24) (Below.refl _ _))
  clear hR hb2
  by_cases h0 : i < 0
  · have d0 : decide (i < 0) = true := decide_eq_true h0
    clear hc2
    go_enter Try.func16, Try.ntmps16
    go_wp2
    refine bodyPost_ret (results_list (rs := [.cell 8 24, .tmp 9]) rfl (by simp) (.cell _ _ _ (0, 0) _ rfl HR.out Try.underlying24 rfl (by kernel_rfl) (.tmp .nil))) rfl ?_
    exact ⟨rfl, HB2.out⟩
  · have d0 : decide (i < 0) = false := decide_eq_false h0
    have g1 := HG.out.cell (j := 1) rfl
    by_cases h1 : (n : Int) ≤ i
    · have d1 : decide ((n : Int) ≤ i) = true := decide_eq_true h1
      clear hc2
      go_enter Try.func16, Try.ntmps16
      go_wp2
      refine bodyPost_ret (results_list (rs := [.cell 8 24, .tmp 9]) rfl (by simp) (.cell _ _ _ (0, 0) _ rfl HR.out Try.underlying24 rfl (by kernel_rfl) (.tmp .nil))) rfl ?_
      exact ⟨rfl, HB2.out⟩
    · have d1 : decide ((n : Int) ≤ i) = false := decide_eq_false h1
      have ha : decide (0 ≤ amount ∧ amount ≤ 1000000000000) = false := decide_eq_false fun h => hc2 ⟨by omega, h⟩
      have HA := Lib.hid ha
      clear hc2 ha
      go_enter Try.func16, Try.ntmps16
      go_wp2_with (first | (go_at_call 30; (with_reducible refine (rin_walk amount 0 1000000000000 false HA.out _).mono ?_); rintro e w2 ⟨rfl, hd2⟩; have hR := HR.out.belowS hd2.below; obtain ⟨r1, r2, r3, r4, r5, r6, r7, r8, r9, r10⟩ := res_facts hR (.int .i64 0) (.slice none 0 0) (.int .i64 0)) | fail)
      refine bodyPost_ret (results_list (rs := [.cell 8 24, .tmp 9]) rfl (by simp) (.cell _ _ _ (0, 0) _ rfl r10 Try.underlying24 rfl (by kernel_rfl) (.tmp .nil))) rfl ?_
      exact ⟨rfl, res_below (Below.trans HB2.out (hd2.below.mono HB2.out.size)) (by omega) _ _ _⟩
theorem kr_under {w : World} {base : Nat} {v : Value} {xs : List S27} (h : Kd.R k27 27 w base (fun _ => True) v xs) {a : Addr} (ha : a.block < base) (u : Value) : Kd.R k27 27 (w.setCell a u) base (fun _ => True) v xs :=
  Kd.R_mono (Kd.R_far (Kd.R_bound h) (fun k hk e => by have := hk.2.1; omega) u) (fun _ hk => hk.1)
/-- what lies in memory when the two postings are laid -/
theorem rdisp_mem (w w2 : World) (acc clo : Int) (A : Option Addr) (n c : Nat) (ps : List S27) (p : S27) (i day : Int) (hG : Blk w2 w.heap.size 24 [.int .i64 acc, .slice A n c, .int .i64 clo]) (hR : Blk w2 (w.heap.size + 1) 24 [.int .i64 0, .slice none 0 0, .int .i64 0]) (hB : Below w.heap.size w w2) (hC : Kd.C k27 w2 A n ps) {w5 : World} (h5 : (w2.alloc (.cells #[.int .i64 p.f0, .int .i64 p.f1, .int .i64 p.f2, .int .i64 p.f3, .int .i64 p.f4, .int .i64 p.f5, .int .i64 p.f6] 27)).alloc (.cells #[.int .i64 3, .int .i64 day, .int .i64 p.f3, .int .i64 p.f2, .int .i64 p.f4, .int .i64 p.f5, .int .i64 i] 27) = w5) :
    Blk w5 w.heap.size 24 [.int .i64 acc, .slice A n c, .int .i64 clo] ∧ Blk w5 (w.heap.size + 1) 24 [.int .i64 0, .slice none 0 0, .int .i64 0] ∧ Blk w5 w2.heap.size 27 (pcells p) ∧ Blk w5 (w2.heap.size + 1) 27 (pcells ⟨3, day, p.f3, p.f2, p.f4, p.f5, i⟩) ∧ Below w.heap.size w w5 ∧ Kd.C k27 w5 A n ps := by
  subst h5
  have hb : Below w2.heap.size w2 ((w2.alloc (.cells #[.int .i64 p.f0, .int .i64 p.f1, .int .i64 p.f2, .int .i64 p.f3, .int .i64 p.f4, .int .i64 p.f5, .int .i64 p.f6] 27)).alloc (.cells #[.int .i64 3, .int .i64 day, .int .i64 p.f3, .int .i64 p.f2, .int .i64 p.f4, .int .i64 p.f5, .int .i64 i] 27)) := below2 w2 _ _
  refine ⟨hG.belowS hb, hR.belowS hb, (Blk.new w2 27 (pcells p)).alloc _, ?_, Below.trans hB (hb.mono hB.size), Kd.C_below hC hb⟩
  have h := Blk.new (w2.alloc (.cells #[.int .i64 p.f0, .int .i64 p.f1, .int .i64 p.f2, .int .i64 p.f3, .int .i64 p.f4, .int .i64 p.f5, .int .i64 p.f6] 27)) 27 (pcells ⟨3, day, p.f3, p.f2, p.f4, p.f5, i⟩)
  rw [show (w2.alloc (.cells #[.int .i64 p.f0, .int .i64 p.f1, .int .i64 p.f2, .int .i64 p.f3, .int .i64 p.f4, .int .i64 p.f5, .int .i64 p.f6] 27)).heap.size = w2.heap.size + 1 by simp] at h
  exact h
set_option maxRecDepth 100000 in
set_option maxHeartbeats 4000000 in
theorem rDisp_main (acc clo : Int) (A : Option Addr) (n c : Nat) (ps : List S27) (hl : ps.length = n) (i day amount : Int) (hi0 : 0 ≤ i) (hin : i < (n : Int)) (ha : decide (0 ≤ amount ∧ amount ≤ 1000000000000) = true) (p : S27) (hp : rd_T27 ps i = p) (r1 : Int × List S27 × Int × Int × Int) (hr1 : postF acc ps clo ⟨3, day, p.f3, p.f2, p.f4, p.f5, i⟩ = r1) (hr1l : r1.2.1.length ≤ 1000) (r2 : Int × List S27 × Int × Int × Int) (hr2 : postF r1.1 r1.2.1 r1.2.2.1 (newP p day amount) = r2) (w : World) (hC : Kd.C k27 w A n ps) (hc : n ≤ c) (hn : n ≤ 999990) :
    Calls Try.prog 16 #[.agg #[.int .i64 acc, .slice A n c, .int .i64 clo], .int .i64 i, .int .i64 day, .int .i64 amount] w fun e w' => ∃ (A' : Option Addr) (c' n' : Nat),
      ((r1.2.2.2.2 ≠ 0 ∨ amount = 0) ∧ r1.2.1.length = n' ∧ e = .returned (.tuple #[.agg #[.int .i64 r1.1, .slice A' n' c', .int .i64 r1.2.2.1], .int .i64 r1.2.2.2.2]) ∧ Kd.R k27 27 w' w.heap.size (fun _ => True) (.slice A' n' c') r1.2.1 ∨
       (r1.2.2.2.2 = 0 ∧ amount ≠ 0) ∧ r2.2.1.length = n' ∧ e = .returned (.tuple #[.agg #[.int .i64 r2.1, .slice A' n' c', .int .i64 r2.2.2.1], .int .i64 r2.2.2.2.2]) ∧ Kd.R k27 27 w' w.heap.size (fun _ => True) (.slice A' n' c') r2.2.1) ∧ Below w.heap.size w w' := by
  have HR := Lib.hid (res_blk1 w (.cells #[.int .i64 acc, .slice A n c, .int .i64 clo] 24))
  have HB2 := Lib.hid (below2 w (.cells #[.int .i64 acc, .slice A n c, .int .i64 clo] 24) (.cells #[.int .i64 0, .slice none 0 0, .int .i64 0] 24))
  have HG := Lib.hid (gb_cells w acc clo A n c (.cells #[.int .i64 0, .slice none 0 0, .int .i64 0] 24) (Below.refl _ _))
  have d0 : decide (i < 0) = false := decide_eq_false (by omega)
  have d1 : decide ((n : Int) ≤ i) = false := decide_eq_false (by omega)
  have g1 := HG.out.cell (j := 1) rfl
  have HL := Lib.hid hl
  have HP := Lib.hid hp
  have HC := Lib.hid hC
  have HR1 := Lib.hid hr1
  have HR2 := Lib.hid hr2
  have HA := Lib.hid ha
  clear hl hp hC hr1 hr2 ha
  go_enter Try.func16, Try.ntmps16
  go_upto_region 3 with (first | (go_at_call 30; (with_reducible refine (rin_walk amount 0 1000000000000 true HA.out _).mono ?_); rintro e w2 ⟨rfl, hd2⟩) | fail)
  have hG2 := HG.out.belowS hd2.below
  have hR2 := HR.out.belowS hd2.below
  have hB2 := Below.trans HB2.out (hd2.below.mono HB2.out.size)
  have hC2 := Kd.C_below HC.out hB2
  clear hd2 HR HB2 HG g1 HA HC
  obtain ⟨ad, rfl, x0, x1, x2, x3, x4, x5, x6⟩ := at_T27 hC2 i hi0 hin
  rw [HP.out] at x0 x1 x2 x3 x4 x5 x6
  have g1 := hG2.cell (j := 1) rfl
  have HG2 := Lib.hid hG2
  have HR2' := Lib.hid hR2
  have HBB := Lib.hid hB2
  have HC2 := Lib.hid hC2
  clear hG2 hR2 hB2 hC2
  go_upto_region 5 with (fail)
  clear x0 x1 x2 x3 x4 x5 x6 g1
  change Code.wp _ _ _ _ ((w2.alloc (.cells #[.int .i64 p.f0, .int .i64 p.f1, .int .i64 p.f2, .int .i64 p.f3, .int .i64 p.f4, .int .i64 p.f5, .int .i64 p.f6] 27)).alloc (.cells #[.int .i64 3, .int .i64 day, .int .i64 p.f3, .int .i64 p.f2, .int .i64 p.f4, .int .i64 p.f5, .int .i64 i] 27))
  generalize h5 : (w2.alloc (.cells #[.int .i64 p.f0, .int .i64 p.f1, .int .i64 p.f2, .int .i64 p.f3, .int .i64 p.f4, .int .i64 p.f5, .int .i64 p.f6] 27)).alloc (.cells #[.int .i64 3, .int .i64 day, .int .i64 p.f3, .int .i64 p.f2, .int .i64 p.f4, .int .i64 p.f5, .int .i64 i] 27) = w5
  obtain ⟨mG, mR, mP, mB, mb, mC⟩ := rdisp_mem w w2 acc clo _ n c ps p i day HG2.out HR2'.out HBB.out HC2.out h5
  have hq : w.heap.size + 1 < w2.heap.size := HR2'.out.lt
  have HQ1 := Lib.hid mB.lt
  clear h5 HG2 HR2' HBB HC2
  generalize w2.heap.size = q at *
  clear w2
  have HG := Lib.hid mG
  have HR := Lib.hid mR
  have HPB := Lib.hid mP
  have HB := Lib.hid mb
  have HC := Lib.hid mC
  obtain ⟨z0, z1, z2, z3, z4, z5, z6⟩ := pc_cells mB
  have g0 := mG.cell (j := 0) rfl
  have g1 := mG.cell (j := 1) rfl
  have g2 := mG.cell (j := 2) rfl
  clear mG mR mP mB mb mC
  go_upto_region 6 with (first | (go_at_call 10; (with_reducible refine (rPost_walk acc clo _ n c ps HL.out ⟨3, day, p.f3, p.f2, p.f4, p.f5, i⟩ r1 HR1.out _ HC.out hc (by omega)).mono ?_); rintro e w6 ⟨A', c', n', hl', rfl, hKR, hb6⟩) | fail)
  have HSL := Lib.hid (show Kd.R k27 27 (w6.alloc (.cells #[.int .i64 r1.1, .slice A' n' c', .int .i64 r1.2.2.1] 24)) w5.heap.size (fun _ => True) (.slice A' n' c') r1.2.1 from Kd.R_below hKR ((Below.refl _ _).alloc (Nat.le_refl _) _))
  have hqs : q + 1 < w5.heap.size := HQ1.out
  have HX := Lib.hid ((HR.out.belowS hb6).alloc (.cells #[.int .i64 r1.1, .slice A' n' c', .int .i64 r1.2.2.1] 24))
  have HNX := Lib.hid (Blk.new w6 24 [.int .i64 r1.1, .slice A' n' c', .int .i64 r1.2.2.1])
  have HPQ := Lib.hid ((HPB.out.belowS hb6).alloc (.cells #[.int .i64 r1.1, .slice A' n' c', .int .i64 r1.2.2.1] 24))
  have HW := Lib.hid ((Below.trans HB.out (hb6.mono HB.out.size)).alloc (Nat.le_trans HB.out.size hb6.size) (.cells #[.int .i64 r1.1, .slice A' n' c', .int .i64 r1.2.2.1] 24))
  have hd6 : q + 1 < w6.heap.size := Nat.lt_of_lt_of_le hqs hb6.size
  have HWS := Lib.hid HB.out.size
  clear z0 z1 z2 z3 z4 z5 z6 g0 g1 g2 hKR HC HG HR HPB HB
  generalize w6.heap.size = d at *
  generalize w6.alloc (.cells #[.int .i64 r1.1, .slice A' n' c', .int .i64 r1.2.2.1] 24) = w7 at *
  clear hb6 w6
  by_cases hcase : r1.2.2.2.2 ≠ 0 ∨ amount = 0
  · have g0 := HNX.out.cell (j := 0) rfl
    have g1 := HNX.out.cell (j := 1) rfl
    have g2 := HNX.out.cell (j := 2) rfl
    obtain ⟨b1, b2, b3, b4, b5, b6, b7, b8, b9, b10⟩ := res_facts HX.out (.int .i64 r1.1) (.slice A' n' c') (.int .i64 r1.2.2.1)
    have HB10 := Lib.hid b10
    by_cases he : r1.2.2.2.2 = 0
    · have hz : amount = 0 := hcase.resolve_left (fun h => h he)
      have e1 : (r1.2.2.2.2 == 0) = true := by simp [he]
      have e2 : (amount == 0) = true := by simp [hz]
      clear hcase
      go_wp2
      refine bodyPost_ret (results_list (rs := [.cell 8 24, .tmp 9]) rfl (by simp) (.cell _ _ _ (0, 0) _ rfl HB10.out Try.underlying24 rfl (by kernel_rfl) (.tmp .nil))) rfl ?_
      exact ⟨A', c', n', Or.inl ⟨Or.inr hz, hl', rfl, Kd.R_lower (res_keep HSL.out HX.out _ _ _) HWS.out⟩, res_below HW.out (by omega) _ _ _⟩
    · have e1 : (r1.2.2.2.2 == 0) = false := by simp [he]
      clear hcase
      go_wp2
      refine bodyPost_ret (results_list (rs := [.cell 8 24, .tmp 9]) rfl (by simp) (.cell _ _ _ (0, 0) _ rfl HB10.out Try.underlying24 rfl (by kernel_rfl) (.tmp .nil))) rfl ?_
      exact ⟨A', c', n', Or.inl ⟨Or.inl he, hl', rfl, Kd.R_lower (res_keep HSL.out HX.out _ _ _) HWS.out⟩, res_below HW.out (by omega) _ _ _⟩
  · have he : r1.2.2.2.2 = 0 := Decidable.not_not.1 fun h => hcase (Or.inl h)
    have hz : amount ≠ 0 := fun h => hcase (Or.inr h)
    have e1 : (r1.2.2.2.2 == 0) = true := by simp [he]
    have e2 : (amount == 0) = false := by simp [hz]
    clear hcase
    have h1 := HPQ.out
    have m1 := h1.cell (j := 1) rfl
    have m2 := h1.free 1
    have h3 := h1.set 1 (.int .i64 day)
    have m3 := h3.cell (j := 4) rfl
    have m4 := h3.free 4
    have HNP : Hid (Blk ((w7.setCell ⟨q, 1, none⟩ (.int .i64 day)).setCell ⟨q, 4, none⟩ (.int .i64 amount)) q 27 (pcells (newP p day amount))) := Lib.hid (h3.set 4 (.int .i64 amount))
    have HX9 := Lib.hid ((HX.out.set_other ⟨q, 1, none⟩ (by simp; omega) (.int .i64 day)).set_other ⟨q, 4, none⟩ (by simp; omega) (.int .i64 amount))
    have HNX9 := Lib.hid ((HNX.out.set_other ⟨q, 1, none⟩ (by simp; omega) (.int .i64 day)).set_other ⟨q, 4, none⟩ (by simp; omega) (.int .i64 amount))
    have HW9 := Lib.hid ((HW.out.setCell (p := ⟨q, 1, none⟩) (show w.heap.size ≤ q by omega) (.int .i64 day)).setCell (p := ⟨q, 4, none⟩) (show w.heap.size ≤ q by omega) (.int .i64 amount))
    have HSL9 := Lib.hid (kr_under (kr_under HSL.out (a := ⟨q, 1, none⟩) (by simp; omega) (.int .i64 day)) (a := ⟨q, 4, none⟩) (by simp; omega) (.int .i64 amount))
    clear HPQ HX HNX HW HSL h1 h3
    go_upto_region 10 with (fail)
    generalize (w7.setCell ⟨q, 1, none⟩ (.int .i64 day)).setCell ⟨q, 4, none⟩ (.int .i64 amount) = w9 at *
    clear m1 m2 m3 m4 w7
    obtain ⟨z0, z1, z2, z3, z4, z5, z6⟩ := pc_cells HNP.out
    have g0 := HNX9.out.cell (j := 0) rfl
    have g1 := HNX9.out.cell (j := 1) rfl
    have g2 := HNX9.out.cell (j := 2) rfl
    obtain ⟨A1, c1, eq1, hle1, hC9⟩ := Kd.R_reads HSL9.out
    obtain ⟨rfl, eq2, rfl⟩ := Value.slice.inj eq1
    have HQ2 := Lib.hid (show n' = r1.2.1.length from eq2)
    clear eq1 eq2
    have HC9 := Lib.hid hC9
    clear hC9 HNP HSL9
    go_upto_region 11 with (first | (go_at_call 10; (with_reducible refine (rPost_walk r1.1 r1.2.2.1 _ n' c' r1.2.1 hl' (newP p day amount) r2 HR2.out _ (HQ2.out ▸ HC9.out) (by omega) (by omega)).mono ?_); rintro e w10 ⟨A2, c2, n2, hl2, rfl, hKR, hb10⟩; obtain ⟨y1, y2, y3, y4, y5, y6, y7, y8, y9, y10⟩ := res_facts (HNX9.out.belowS hb10) (.int .i64 r2.1) (.slice A2 n2 c2) (.int .i64 r2.2.2.1)) | fail)
    have HX11 := Lib.hid (((((HX9.out.belowS hb10).set_other ⟨d, 0, none⟩ (by simp; omega) (.int .i64 r2.1)).set_other ⟨d, 1, none⟩ (by simp; omega) (.slice A2 n2 c2)).set_other ⟨d, 2, none⟩ (by simp; omega) (.int .i64 r2.2.2.1)))
    have HW11 := Lib.hid (res_below (R := d) (Below.trans HW9.out (hb10.mono HW9.out.size)) (by omega) (.int .i64 r2.1) (.slice A2 n2 c2) (.int .i64 r2.2.2.1))
    have HS9 := Lib.hid HW9.out.size
    have HSL11 := Lib.hid (res_keep hKR (HNX9.out.belowS hb10) (.int .i64 r2.1) (.slice A2 n2 c2) (.int .i64 r2.2.2.1))
    clear z0 z1 z2 z3 z4 z5 z6 g0 g1 g2 y1 y2 y3 y4 y5 y6 y10 hKR HW9 HX9 HNX9 hb10
    generalize ((w10.setCell ⟨d, 0, none⟩ (.int .i64 r2.1)).setCell ⟨d, 1, none⟩ (.slice A2 n2 c2)).setCell ⟨d, 2, none⟩ (.int .i64 r2.2.2.1) = w11 at *
    obtain ⟨b1, b2, b3, b4, b5, b6, b7, b8, b9, b10⟩ := res_facts HX11.out (.int .i64 r2.1) (.slice A2 n2 c2) (.int .i64 r2.2.2.1)
    have HB10 := Lib.hid b10
    clear b10
    go_wp2
    refine bodyPost_ret (results_list (rs := [.cell 8 24, .tmp 9]) rfl (by simp) (.cell _ _ _ (0, 0) _ rfl HB10.out Try.underlying24 rfl (by kernel_rfl) (.tmp .nil))) rfl ?_
    exact ⟨A2, c2, n2, Or.inr ⟨⟨he, hz⟩, hl2, rfl, Kd.R_lower (res_keep HSL11.out HX11.out _ _ _) HS9.out⟩, res_below HW11.out (by omega) _ _ _⟩
theorem disp_no (acc clo : Int) (ps : List S27) (i day amount : Int) (h : ¬ ((0 ≤ i ∧ i < (ps.length : Int)) ∧ (0 ≤ amount ∧ amount ≤ 1000000000000))) : dispF acc ps clo i day amount = errB := by
  unfold dispF
  have hh : (decide (0 ≤ i ∧ i < (ps.length : Int)) && decide (0 ≤ amount ∧ amount ≤ 1000000000000)) = false := by
    rw [Bool.and_eq_false_iff]
    by_cases h1 : 0 ≤ i ∧ i < (ps.length : Int)
    · exact Or.inr (decide_eq_false fun h2 => h ⟨h1, h2⟩)
    · exact Or.inl (decide_eq_false h1)
  rw [Bool.and_assoc (validB acc ps clo), hh, Bool.and_false, Bool.false_and]
  rfl
theorem disp_yes (acc clo : Int) (ps : List S27) (i day amount : Int) (hi : 0 ≤ i ∧ i < (ps.length : Int)) (ha : 0 ≤ amount ∧ amount ≤ 1000000000000) (p : S27) (hp : rd_T27 ps i = p) (r1 : Int × List S27 × Int × Int × Int) (hr1 : postF acc ps clo ⟨3, day, p.f3, p.f2, p.f4, p.f5, i⟩ = r1) :
    r1.2.1.length ≤ 1000 ∧ ((r1.2.2.2.2 ≠ 0 ∨ amount = 0) → dispF acc ps clo i day amount = (r1.1, r1.2.1, r1.2.2.1, r1.2.2.2.2)) ∧
    (r1.2.2.2.2 = 0 ∧ amount ≠ 0 → ∀ r2, postF r1.1 r1.2.1 r1.2.2.1 (newP p day amount) = r2 → dispF acc ps clo i day amount = (r2.1, r2.2.1, r2.2.2.1, r2.2.2.2.2)) := by
  have hq : (backP p i.toNat day) = ⟨3, day, p.f3, p.f2, p.f4, p.f5, i⟩ := by unfold backP; rw [show ((i.toNat : Nat) : Int) = i by omega]
  subst hr1
  unfold dispF
  rw [decide_eq_true hi, decide_eq_true ha, hp, hq, Bool.and_true, Bool.and_true]
  unfold postF
  cases hb : (validB acc ps clo && postB acc clo ps ⟨3, day, p.f3, p.f2, p.f4, p.f5, i⟩) with
  | false => exact ⟨by simp, fun _ => rfl, fun h => absurd (show (240 : Int) = 0 from h.1) (by decide)⟩
  | true =>
    rw [if_pos rfl, if_pos rfl]
    rw [Bool.and_eq_true] at hb
    refine ⟨by have := post_len hb.2; simp only; omega, fun h => ?_, fun h r2 hr2 => ?_⟩
    · have h0 : amount = 0 := h.resolve_left (fun h => h rfl)
      rw [if_neg (by omega)]
    · have hv : validB acc (ps ++ [⟨3, day, p.f3, p.f2, p.f4, p.f5, i⟩]) clo = true := by
        have := hb.2
        unfold postB at this
        rw [Bool.and_eq_true] at this
        rw [valid_snoc, hb.1, this.2]; rfl
      rw [if_pos (by omega)]
      subst hr2
      simp only
      rw [hv, Bool.true_and]
      split <;> rfl
end Go.Proofs.Ytooogaogbffjfaa.Ext
end
section
/-
 The reference's Dispute, in the form of the print.
-/
set_option linter.unusedVariables false
set_option linter.unusedSimpArgs false
namespace Go.Proofs.Ytooogaogbffjfaa.PB
open Go.RowKit Go.Shelf Go.Proofs.YtooogaogbffjfaaW.PrintWords Go.Proofs.YtooogaogbffjfaaW.PrintLast Go.Proofs.YtooogaogbffjfaaW.PrintMore Go.Proofs.Ytooogaogbffjfaa.PK Go.Proofs.Ytooogaogbffjfaa.Bk Go.Proofs.Ytooogaogbffjfaa.Ext
def aircheckref24_Dispute.f (k : Nat) (a0_0 : Int) (l0_1 : List (S27)) (a0_2 : Int) (a1 : Int) (a2 : Int) (a3 : Int) : Option (Int × (List (S27)) × Int × Int) := if l0_1.length ≤ 999990 then some (dispF a0_0 l0_1 a0_2 a1 a2 a3) else none
theorem aircheckref24_Dispute.calls (k : Nat) (a0_0 : Int) (A0_1 : Option Addr) (c0_1 : Nat) (l0_1 : List (S27)) (a0_2 : Int) (a1 : Int) (a2 : Int) (a3 : Int) (r1 : Int) (r2 : List (S27)) (r3 : Int) (r4 : Int) (w : World) (hr0_1 : Kd.C k27 w A0_1 l0_1.length l0_1) (hc0_1 : l0_1.length ≤ c0_1) (h : aircheckref24_Dispute.f k a0_0 l0_1 a0_2 a1 a2 a3 = some (r1, r2, r3, r4)) :
  Calls Try.prog 16 #[.agg #[.int .i64 a0_0, .slice A0_1 l0_1.length c0_1, .int .i64 a0_2], .int .i64 a1, .int .i64 a2, .int .i64 a3] w fun e w' => ∃ v1_ : Value, e = .returned (.tuple #[.agg #[.int .i64 r1, v1_, .int .i64 r3], .int .i64 r4]) ∧ Kd.R k27 27 w' w.heap.size (fun _ => True) v1_ r2 ∧ Below w.heap.size w w' := by
 unfold aircheckref24_Dispute.f at h
 by_cases hn : l0_1.length ≤ 999990
 ·rw [if_pos hn] at h
  have h := Option.some.inj h
  by_cases hc : (0 ≤ a1 ∧ a1 < (l0_1.length : Int)) ∧ (0 ≤ a3 ∧ a3 ≤ 1000000000000)
  ·obtain ⟨y1, y2, y3⟩ := disp_yes a0_0 a0_2 l0_1 a1 a2 a3 hc.1 hc.2 _ rfl _ rfl
   refine (rDisp_main a0_0 a0_2 A0_1 l0_1.length c0_1 l0_1 rfl a1 a2 a3 hc.1.1 hc.1.2 (decide_eq_true hc.2) _ rfl _ rfl y1 _ rfl w hr0_1 hc0_1 hn).mono ?_
   rintro e w' ⟨A', c', n', hcase | hcase, hb⟩
   ·obtain ⟨h1, hl, he, hR⟩ := hcase
    rw [y2 h1] at h
    simp only [Prod.mk.injEq] at h
    obtain ⟨rfl, rfl, rfl, rfl⟩ := h
    exact ⟨_, he, hR, hb⟩
   ·obtain ⟨h1, hl, he, hR⟩ := hcase
    rw [y3 h1 _ rfl] at h
    simp only [Prod.mk.injEq] at h
    obtain ⟨rfl, rfl, rfl, rfl⟩ := h
    exact ⟨_, he, hR, hb⟩
  ·rw [disp_no _ _ _ _ _ _ hc] at h
   unfold errB at h
   simp only [Prod.mk.injEq] at h
   obtain ⟨rfl, rfl, rfl, rfl⟩ := h
   refine (rDisp_err a0_0 a0_2 A0_1 l0_1.length c0_1 l0_1 rfl a1 a2 a3 hc w).mono ?_
   rintro e w' ⟨he, hb⟩
   exact ⟨_, he, Kd.R_nil _ _ _ _ _, hb⟩
 ·rw [if_neg hn] at h
  cases h
end Go.Proofs.Ytooogaogbffjfaa.PB
end
