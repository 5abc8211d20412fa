import Derived.Test.YtooogaogbffjfaaMBookKeepsal
import Derived.RangeFuncNested
import Derived.RangeFuncBound
import Derived.RangeFuncBox
import Derived.Below
import Derived.RangeFuncLeaves
import Derived.OwnWalkIn
import Derived.TacticsInMore
import Derived.Shelf.Abstract
import Derived.Test.YtooogaogbffjfaaMBookKeepsag
import Derived.StillTailTactics
/-
  Texts of this claim, one behind the other: what they prove stands above each.
-/
section
/-
  Dispute: the postings.
-/
set_option linter.unusedVariables false
set_option linter.unusedSimpArgs false
namespace Go.Proofs.Ytooogaogbffjfaa.Ext
open Go.RowKit Go.Proofs.YtooogaogbffjfaaW.PrintWords Go.Proofs.YtooogaogbffjfaaW.PrintLast Go.Proofs.YtooogaogbffjfaaW.PrintMore Go.Proofs.Ytooogaogbffjfaa.PK Go.Proofs.Ytooogaogbffjfaa.Bk
attribute [local go_sem] Oper.semAt_some
def backP (p : S27) (o : Nat) (day : Int) : S27 := ⟨3, day, p.f3, p.f2, p.f4, p.f5, o⟩
def newP (p : S27) (day amount : Int) : S27 := ⟨p.f0, day, p.f2, p.f3, amount, p.f5, p.f6⟩
def dispW (w4 : World) (p : S27) (o : Nat) (day : Int) : World := (w4.alloc (.cells #[.int .i64 p.f0, .int .i64 p.f1, .int .i64 p.f2, .int .i64 p.f3, .int .i64 p.f4, .int .i64 p.f5, .int .i64 p.f6] 27)).alloc (.cells #[.int .i64 3, .int .i64 day, .int .i64 p.f3, .int .i64 p.f2, .int .i64 p.f4, .int .i64 p.f5, .int .i64 (o : Int)] 27)
theorem disp_mem (w4 : World) (p : S27) (o : Nat) (day amount : Int) : (dispW w4 p o day).cell? ⟨w4.heap.size, 1, none⟩ = some (.int .i64 p.f1) ∧ (dispW w4 p o day).frozen? ⟨w4.heap.size, 1, none⟩ = false ∧
    ((dispW w4 p o day).setCell ⟨w4.heap.size, 1, none⟩ (.int .i64 day)).cell? ⟨w4.heap.size, 4, none⟩ = some (.int .i64 p.f4) ∧ ((dispW w4 p o day).setCell ⟨w4.heap.size, 1, none⟩ (.int .i64 day)).frozen? ⟨w4.heap.size, 4, none⟩ = false ∧
    Blk (((dispW w4 p o day).setCell ⟨w4.heap.size, 1, none⟩ (.int .i64 day)).setCell ⟨w4.heap.size, 4, none⟩ (.int .i64 amount)) w4.heap.size 27 (pcells (newP p day amount)) ∧ Blk (((dispW w4 p o day).setCell ⟨w4.heap.size, 1, none⟩ (.int .i64 day)).setCell ⟨w4.heap.size, 4, none⟩ (.int .i64 amount)) (w4.heap.size + 1) 27 (pcells (backP p o day)) ∧
    Below w4.heap.size w4 (((dispW w4 p o day).setCell ⟨w4.heap.size, 1, none⟩ (.int .i64 day)).setCell ⟨w4.heap.size, 4, none⟩ (.int .i64 amount)) := by
  have h1 : Blk (dispW w4 p o day) w4.heap.size 27 (pcells p) := (Blk.new w4 27 (pcells p)).alloc _
  have h2 : Blk (dispW w4 p o day) (w4.heap.size + 1) 27 (pcells (backP p o day)) := by
    have h := Blk.new (w4.alloc (.cells #[.int .i64 p.f0, .int .i64 p.f1, .int .i64 p.f2, .int .i64 p.f3, .int .i64 p.f4, .int .i64 p.f5, .int .i64 p.f6] 27)) 27 (pcells (backP p o day))
    rw [show (w4.alloc (.cells #[.int .i64 p.f0, .int .i64 p.f1, .int .i64 p.f2, .int .i64 p.f3, .int .i64 p.f4, .int .i64 p.f5, .int .i64 p.f6] 27)).heap.size = w4.heap.size + 1 by simp] at h
    exact h
  have h3 := h1.set 1 (.int .i64 day)
  have hb : Below w4.heap.size w4 (dispW w4 p o day) := below2 w4 _ _
  exact ⟨h1.cell rfl, h1.free 1, h3.cell rfl, h3.free 4, h3.set 4 _, (h2.set_other ⟨w4.heap.size, 1, none⟩ (by simp) _).set_other ⟨w4.heap.size, 4, none⟩ (by simp) _, (hb.setCell (p := ⟨w4.heap.size, 1, none⟩) (Nat.le_refl _) _).setCell (p := ⟨w4.heap.size, 4, none⟩) (Nat.le_refl _) _⟩
theorem pc_cells {w : World} {B : Nat} {t : TypeId} {p : S27} (h : Blk w B t (pcells p)) : w.cell? ⟨B, 0, none⟩ = some (.int .i64 p.f0) ∧ w.cell? ⟨B, 1, none⟩ = some (.int .i64 p.f1) ∧ w.cell? ⟨B, 2, none⟩ = some (.int .i64 p.f2) ∧ w.cell? ⟨B, 3, none⟩ = some (.int .i64 p.f3) ∧ w.cell? ⟨B, 4, none⟩ = some (.int .i64 p.f4) ∧ w.cell? ⟨B, 5, none⟩ = some (.int .i64 p.f5) ∧ w.cell? ⟨B, 6, none⟩ = some (.int .i64 p.f6) :=
  ⟨h.cell rfl, h.cell rfl, h.cell rfl, h.cell rfl, h.cell rfl, h.cell rfl, h.cell rfl⟩
theorem bk_cells {w : World} {B : Nat} {t : TypeId} {p : S27} {o : Nat} {day : Int} (h : Blk w B t (pcells (backP p o day))) : w.cell? ⟨B, 0, none⟩ = some (.int .i64 3) ∧ w.cell? ⟨B, 1, none⟩ = some (.int .i64 day) ∧ w.cell? ⟨B, 2, none⟩ = some (.int .i64 p.f3) ∧ w.cell? ⟨B, 3, none⟩ = some (.int .i64 p.f2) ∧ w.cell? ⟨B, 4, none⟩ = some (.int .i64 p.f4) ∧ w.cell? ⟨B, 5, none⟩ = some (.int .i64 p.f5) ∧ w.cell? ⟨B, 6, none⟩ = some (.int .i64 (o : Int)) := pc_cells h
theorem nw_cells {w : World} {B : Nat} {t : TypeId} {p : S27} {day amount : Int} (h : Blk w B t (pcells (newP p day amount))) : w.cell? ⟨B, 0, none⟩ = some (.int .i64 p.f0) ∧ w.cell? ⟨B, 1, none⟩ = some (.int .i64 day) ∧ w.cell? ⟨B, 2, none⟩ = some (.int .i64 p.f2) ∧ w.cell? ⟨B, 3, none⟩ = some (.int .i64 p.f3) ∧ w.cell? ⟨B, 4, none⟩ = some (.int .i64 amount) ∧ w.cell? ⟨B, 5, none⟩ = some (.int .i64 p.f5) ∧ w.cell? ⟨B, 6, none⟩ = some (.int .i64 p.f6) := pc_cells h
theorem disp_own {ws w4 w6 : World} {B : Nat} {acc clo : Int} {ps : List S27} (h : Ledger ws w4 B acc clo ps) (hb : Below w4.heap.size w4 w6) (v : Value) (hv : w6.cell? ⟨B, 1, none⟩ = some v) : some w4.heap.size ≠ v.ownBlock := by
  obtain ⟨_, _, v0, h1, h2, _⟩ := h
  have h3 : w4.cell? ⟨B, 1, none⟩ = some v0 := h1.cell rfl
  rw [keepB hb h3] at hv
  obtain rfl := Option.some.inj hv
  exact fun e => Nat.lt_irrefl _ (Kd.R_lt h2 _ e.symm)
theorem post_len {acc clo : Int} {ps : List S27} {p : S27} (h : postB acc clo ps p = true) : (ps ++ [p]).length ≤ 200 := by
  unfold postB at h
  rw [Bool.and_eq_true] at h
  have := next_len h.2
  simp; omega
theorem post_back (ws w : World) (B : Nat) (acc clo : Int) (ps : List S27) (p : S27) (o : Nat) (day : Int) (hL : Ledger ws w B acc clo ps) (hps : ps.length ≤ 200) (hc : 0 ≤ clo ∧ clo ≤ 12) (r : Bool) (hr : postB acc clo ps (backP p o day) = r) :
    Calls Try.prog 29 #[.pointer (some ⟨B, 0, none⟩), .agg #[.int .i64 3, .int .i64 day, .int .i64 p.f3, .int .i64 p.f2, .int .i64 p.f4, .int .i64 p.f5, .int .i64 (o : Int)]] w fun e w' => e = .returned (.bool r) ∧ Ledger ws w' B acc clo (if r then ps ++ [backP p o day] else ps) ∧ Fram w w' B :=
  post_frame ws w B acc clo ps (backP p o day) hL hps hc r hr
theorem post_new (ws w : World) (B : Nat) (acc clo : Int) (ps : List S27) (p : S27) (day amount : Int) (hL : Ledger ws w B acc clo ps) (hps : ps.length ≤ 200) (hc : 0 ≤ clo ∧ clo ≤ 12) (r : Bool) (hr : postB acc clo ps (newP p day amount) = r) :
    Calls Try.prog 29 #[.pointer (some ⟨B, 0, none⟩), .agg #[.int .i64 p.f0, .int .i64 day, .int .i64 p.f2, .int .i64 p.f3, .int .i64 amount, .int .i64 p.f5, .int .i64 p.f6]] w fun e w' => e = .returned (.bool r) ∧ Ledger ws w' B acc clo (if r then ps ++ [newP p day amount] else ps) :=
  post_walk ws w B acc clo ps (newP p day amount) hL hps hc r hr
set_option maxRecDepth 100000 in
set_option maxHeartbeats 4000000 in
theorem Dispute_no6 (acc clo : Int) (A : Option Addr) (c n : Nat) (ps : List S27) (hl : ps.length = n) (i day amount : Int) (w : World) (hr : Kd.C k27 w A n ps) (hn : n ≤ 1000000) (ho : okAll acc [] ps = true) (hi : inB acc clo = true) (o : Nat) (hio : i = (o : Int)) (h0 : decide (i < 0) = false) (h1 : decide ((n : Int) ≤ i) = false) (hc : decide (0 ≤ amount ∧ amount ≤ 1000000000000) = true) (p : S27) (hp : rd_T27 ps (o : Int) = p) (hb1 : postB acc clo ps (backP p o day) = false) :
    Calls Try.prog 15 #[.agg #[.int .i64 acc, .slice A n c, .int .i64 clo], .int .i64 i, .int .i64 day, .int .i64 amount] w fun e w' => e = .returned (.tuple #[.agg #[.int .i64 0, .slice none 0 0, .int .i64 0], .int .i64 240]) ∧ Below w.heap.size w w' := by
  have HR := Lib.hid hr
  have HN := Lib.hid hn
  have HL := Lib.hid hl
  have HO := Lib.hid ho
  have HI := Lib.hid hi
  have HC := Lib.hid hc
  have HPS := Lib.hid (okAll_200 ho)
  have HP := Lib.hid hp
  have HIO := Lib.hid hio
  have HB1 := Lib.hid hb1
  clear hb1
  clear hr ho hi hl hn hc hp hio
  go_enter Try.func15, Try.ntmps15
  go_upto_region 4 with (first | (go_at_call 28; refine (open_yes' acc clo A c n ps HL.out _ (Kd.C_alloc (Kd.C_alloc HR.out _) _) HN.out HO.out true HI.out).mono ?_; rintro e w2 ⟨B, rfl, hL2⟩; have hps := arg_ps w _ hL2.1) | (go_at_call 32; (with_reducible refine (isIn_walk' amount 0 1000000000000 true HC.out _).mono ?_); rintro e w4 ⟨rfl, hd4⟩; have hp4 := keepB hd4.below hps; have HL4 := Lib.hid (hL2.below hd4.below)) | fail)
  clear hL2 hps
  obtain rfl := HIO.out
  clear HIO
  have HC4 := Lib.hid (Kd.C_below (Kd.C_alloc (Kd.C_alloc HR.out _) _) HL4.out.1)
  obtain ⟨ad, rfl, x0, x1, x2, x3, x4, x5, x6⟩ := at_T27 HC4.out (o : Int) (by omega) (by have := of_decide_eq_false h1; omega)
  rw [HP.out] at x0 x1 x2 x3 x4 x5 x6
  rw [Int.toNat_natCast] at x0 x1 x2 x3 x4 x5 x6
  have hon : (o : Int) < (n : Int) := by have := of_decide_eq_false h1; omega
  go_upto_region 6 with (first | fail)
  clear x0 x1 x2 x3 x4 x5 x6
  obtain ⟨m1, m2, m3, m4, m5, m6, m7⟩ := disp_mem w4 p o day amount
  change Code.wp _ _ _ _ (dispW w4 p o day)
  have HM5 := Lib.hid m5
  have HM6 := Lib.hid m6
  have HL6 := Lib.hid (HL4.out.below m7)
  clear m5 m6
  generalize dispW w4 p o day = w5 at *
  go_upto_region 7 with (first | fail)
  have HQB := Lib.hid (show w4.heap.size ≠ B from fun e => by obtain ⟨_, _, _, hld, _⟩ := HL4.out; have := hld.lt; omega)
  have HQV : Hid (∀ v, ((w5.setCell ⟨w4.heap.size, 1, none⟩ (.int .i64 day)).setCell ⟨w4.heap.size, 4, none⟩ (.int .i64 amount)).cell? ⟨B, 1, none⟩ = some v → some w4.heap.size ≠ v.ownBlock) := Lib.hid (disp_own HL4.out m7)
  generalize (w5.setCell ⟨w4.heap.size, 1, none⟩ (.int .i64 day)).setCell ⟨w4.heap.size, 4, none⟩ (.int .i64 amount) = w6 at *
  generalize w4.heap.size = q at *
  clear m1 m2 m3 m4 m7 hp4
  obtain ⟨z0, z1, z2, z3, z4, z5, z6⟩ := bk_cells HM6.out
  go_wp2_with (first | (go_at_call 29; (with_reducible refine (post_back _ _ B acc clo ps p o day HL6.out HPS.out (clo_of HI.out) false HB1.out).mono ?_); rintro e w7 ⟨rfl, hL7, hFr7⟩; have hR := (res_blk1 w _).belowS hL7.1; obtain ⟨r1, r2, r3, r4, r5, r6, r7, r8, r9, r10⟩ := res_facts hR (.int .i64 0) (.slice none 0 0) (.int .i64 0)) | fail)
  refine bodyPost_ret (results_list (rs := [.cell 8 24, .tmp 9]) rfl (by simp) (.cell _ _ _ (0, 0) _ rfl r10 Try.underlying24 rfl (by kernel_rfl) (.tmp .nil))) rfl ?_
  exact ⟨rfl, res_below (Below.trans (below2 w _ _) (hL7.1.mono (below2 w _ _).size)) (by omega) _ _ _⟩
set_option maxRecDepth 100000 in
set_option maxHeartbeats 4000000 in
theorem Dispute_no7 (acc clo : Int) (A : Option Addr) (c n : Nat) (ps : List S27) (hl : ps.length = n) (i day amount : Int) (w : World) (hr : Kd.C k27 w A n ps) (hn : n ≤ 1000000) (ho : okAll acc [] ps = true) (hi : inB acc clo = true) (o : Nat) (hio : i = (o : Int)) (h0 : decide (i < 0) = false) (h1 : decide ((n : Int) ≤ i) = false) (hc : decide (0 ≤ amount ∧ amount ≤ 1000000000000) = true) (p : S27) (hp : rd_T27 ps (o : Int) = p) (hb1 : postB acc clo ps (backP p o day) = true) (hap : decide (0 < amount) = true) (hb2 : postB acc clo (ps ++ [backP p o day]) (newP p day amount) = false) :
    Calls Try.prog 15 #[.agg #[.int .i64 acc, .slice A n c, .int .i64 clo], .int .i64 i, .int .i64 day, .int .i64 amount] w fun e w' => e = .returned (.tuple #[.agg #[.int .i64 0, .slice none 0 0, .int .i64 0], .int .i64 240]) ∧ Below w.heap.size w w' := by
  have HR := Lib.hid hr
  have HN := Lib.hid hn
  have HL := Lib.hid hl
  have HO := Lib.hid ho
  have HI := Lib.hid hi
  have HC := Lib.hid hc
  have HPS := Lib.hid (okAll_200 ho)
  have HP := Lib.hid hp
  have HIO := Lib.hid hio
  have HB1 := Lib.hid hb1
  have HB2 := Lib.hid hb2
  have HPS2 := Lib.hid (post_len hb1)
  clear hb1 hb2
  clear hr ho hi hl hn hc hp hio
  go_enter Try.func15, Try.ntmps15
  go_upto_region 4 with (first | (go_at_call 28; refine (open_yes' acc clo A c n ps HL.out _ (Kd.C_alloc (Kd.C_alloc HR.out _) _) HN.out HO.out true HI.out).mono ?_; rintro e w2 ⟨B, rfl, hL2⟩; have hps := arg_ps w _ hL2.1) | (go_at_call 32; (with_reducible refine (isIn_walk' amount 0 1000000000000 true HC.out _).mono ?_); rintro e w4 ⟨rfl, hd4⟩; have hp4 := keepB hd4.below hps; have HL4 := Lib.hid (hL2.below hd4.below)) | fail)
  clear hL2 hps
  obtain rfl := HIO.out
  clear HIO
  have HC4 := Lib.hid (Kd.C_below (Kd.C_alloc (Kd.C_alloc HR.out _) _) HL4.out.1)
  obtain ⟨ad, rfl, x0, x1, x2, x3, x4, x5, x6⟩ := at_T27 HC4.out (o : Int) (by omega) (by have := of_decide_eq_false h1; omega)
  rw [HP.out] at x0 x1 x2 x3 x4 x5 x6
  rw [Int.toNat_natCast] at x0 x1 x2 x3 x4 x5 x6
  have hon : (o : Int) < (n : Int) := by have := of_decide_eq_false h1; omega
  go_upto_region 6 with (first | fail)
  clear x0 x1 x2 x3 x4 x5 x6
  obtain ⟨m1, m2, m3, m4, m5, m6, m7⟩ := disp_mem w4 p o day amount
  change Code.wp _ _ _ _ (dispW w4 p o day)
  have HM5 := Lib.hid m5
  have HM6 := Lib.hid m6
  have HL6 := Lib.hid (HL4.out.below m7)
  clear m5 m6
  generalize dispW w4 p o day = w5 at *
  go_upto_region 7 with (first | fail)
  have HQB := Lib.hid (show w4.heap.size ≠ B from fun e => by obtain ⟨_, _, _, hld, _⟩ := HL4.out; have := hld.lt; omega)
  have HQV : Hid (∀ v, ((w5.setCell ⟨w4.heap.size, 1, none⟩ (.int .i64 day)).setCell ⟨w4.heap.size, 4, none⟩ (.int .i64 amount)).cell? ⟨B, 1, none⟩ = some v → some w4.heap.size ≠ v.ownBlock) := Lib.hid (disp_own HL4.out m7)
  generalize (w5.setCell ⟨w4.heap.size, 1, none⟩ (.int .i64 day)).setCell ⟨w4.heap.size, 4, none⟩ (.int .i64 amount) = w6 at *
  generalize w4.heap.size = q at *
  clear m1 m2 m3 m4 m7 hp4
  obtain ⟨z0, z1, z2, z3, z4, z5, z6⟩ := bk_cells HM6.out
  go_wp2_with (first | (go_at_call 29; (with_reducible refine (post_back _ _ B acc clo ps p o day HL6.out HPS.out (clo_of HI.out) true HB1.out).mono ?_); rintro e w7 ⟨rfl, hL7, hFr7⟩; have HL7 : Hid (Ledger _ w7 B acc clo (ps ++ [backP p o day])) := Lib.hid hL7; clear hL7; clear z0 z1 z2 z3 z4 z5 z6; obtain ⟨z0, z1, z2, z3, z4, z5, z6⟩ := nw_cells (hFr7 _ _ _ HM5.out HQB.out HQV.out); clear hFr7) | (go_at_call 29; (with_reducible refine (post_new _ _ B acc clo (ps ++ [backP p o day]) p day amount HL7.out HPS2.out (clo_of HI.out) false HB2.out).mono ?_); rintro e w8 ⟨rfl, hL8⟩; have hR := (res_blk1 w _).belowS hL8.1; obtain ⟨r1, r2, r3, r4, r5, r6, r7, r8, r9, r10⟩ := res_facts hR (.int .i64 0) (.slice none 0 0) (.int .i64 0)) | fail)
  refine bodyPost_ret (results_list (rs := [.cell 8 24, .tmp 9]) rfl (by simp) (.cell _ _ _ (0, 0) _ rfl r10 Try.underlying24 rfl (by kernel_rfl) (.tmp .nil))) rfl ?_
  exact ⟨rfl, res_below (Below.trans (below2 w _ _) (hL8.1.mono (below2 w _ _).size)) (by omega) _ _ _⟩
set_option maxRecDepth 100000 in
set_option maxHeartbeats 4000000 in
theorem Dispute_yes1 (acc clo : Int) (A : Option Addr) (c n : Nat) (ps : List S27) (hl : ps.length = n) (i day amount : Int) (w : World) (hr : Kd.C k27 w A n ps) (hn : n ≤ 1000000) (ho : okAll acc [] ps = true) (hi : inB acc clo = true) (o : Nat) (hio : i = (o : Int)) (h0 : decide (i < 0) = false) (h1 : decide ((n : Int) ≤ i) = false) (hc : decide (0 ≤ amount ∧ amount ≤ 1000000000000) = true) (p : S27) (hp : rd_T27 ps (o : Int) = p) (h00 : amount = 0) (hb1 : postB acc clo ps (backP p o day) = true) :
    Calls Try.prog 15 #[.agg #[.int .i64 acc, .slice A n c, .int .i64 clo], .int .i64 i, .int .i64 day, .int .i64 amount] w fun e w' => ∃ v1 : Value, e = .returned (.tuple #[.agg #[.int .i64 acc, v1, .int .i64 clo], .int .i64 0]) ∧ Kd.R k27 27 w' w.heap.size (fun _ => True) v1 (ps ++ [backP p o day]) ∧ Below w.heap.size w w' := by
  have HR := Lib.hid hr
  have HN := Lib.hid hn
  have HL := Lib.hid hl
  have HO := Lib.hid ho
  have HI := Lib.hid hi
  have HC := Lib.hid hc
  have HPS := Lib.hid (okAll_200 ho)
  have HP := Lib.hid hp
  have HIO := Lib.hid hio
  have HB1 := Lib.hid hb1
  clear hb1
  have H00 := Lib.hid h00
  clear h00
  clear hr ho hi hl hn hc hp hio
  go_enter Try.func15, Try.ntmps15
  go_upto_region 4 with (first | (go_at_call 28; refine (open_yes' acc clo A c n ps HL.out _ (Kd.C_alloc (Kd.C_alloc HR.out _) _) HN.out HO.out true HI.out).mono ?_; rintro e w2 ⟨B, rfl, hL2⟩; have hps := arg_ps w _ hL2.1) | (go_at_call 32; (with_reducible refine (isIn_walk' amount 0 1000000000000 true HC.out _).mono ?_); rintro e w4 ⟨rfl, hd4⟩; have hp4 := keepB hd4.below hps; have HL4 := Lib.hid (hL2.below hd4.below)) | fail)
  clear hL2 hps
  obtain rfl := HIO.out
  clear HIO
  have HC4 := Lib.hid (Kd.C_below (Kd.C_alloc (Kd.C_alloc HR.out _) _) HL4.out.1)
  obtain ⟨ad, rfl, x0, x1, x2, x3, x4, x5, x6⟩ := at_T27 HC4.out (o : Int) (by omega) (by have := of_decide_eq_false h1; omega)
  rw [HP.out] at x0 x1 x2 x3 x4 x5 x6
  rw [Int.toNat_natCast] at x0 x1 x2 x3 x4 x5 x6
  have hon : (o : Int) < (n : Int) := by have := of_decide_eq_false h1; omega
  go_upto_region 6 with (first | fail)
  clear x0 x1 x2 x3 x4 x5 x6
  obtain ⟨m1, m2, m3, m4, m5, m6, m7⟩ := disp_mem w4 p o day amount
  change Code.wp _ _ _ _ (dispW w4 p o day)
  have HM5 := Lib.hid m5
  have HM6 := Lib.hid m6
  have HL6 := Lib.hid (HL4.out.below m7)
  clear m5 m6
  generalize dispW w4 p o day = w5 at *
  go_upto_region 7 with (first | fail)
  have HQB := Lib.hid (show w4.heap.size ≠ B from fun e => by obtain ⟨_, _, _, hld, _⟩ := HL4.out; have := hld.lt; omega)
  have HQV : Hid (∀ v, ((w5.setCell ⟨w4.heap.size, 1, none⟩ (.int .i64 day)).setCell ⟨w4.heap.size, 4, none⟩ (.int .i64 amount)).cell? ⟨B, 1, none⟩ = some v → some w4.heap.size ≠ v.ownBlock) := Lib.hid (disp_own HL4.out m7)
  generalize (w5.setCell ⟨w4.heap.size, 1, none⟩ (.int .i64 day)).setCell ⟨w4.heap.size, 4, none⟩ (.int .i64 amount) = w6 at *
  generalize w4.heap.size = q at *
  clear m1 m2 m3 m4 m7 hp4
  obtain ⟨z0, z1, z2, z3, z4, z5, z6⟩ := bk_cells HM6.out
  obtain rfl := H00.out
  go_upto_region 9 with (first | (go_at_call 29; (with_reducible refine (post_back _ _ B acc clo ps p o day HL6.out HPS.out (clo_of HI.out) true HB1.out).mono ?_); rintro e w7 ⟨rfl, hL7, hFr7⟩; have HL7 : Hid (Ledger _ w7 B acc clo (ps ++ [backP p o day])) := Lib.hid hL7; clear hL7) | fail)
  have HB := Lib.hid HL7.out.2.1
  have HW := Lib.hid HL7.out.1
  obtain ⟨a', k', nn, hnn, hLed, hR', hne⟩ := led_own HL7.out
  have HNN := Lib.hid hnn
  have HRR := Lib.hid hR'
  have y0 : w7.cell? ⟨B, 0, none⟩ = some (.int .i64 acc) := hLed.cell rfl
  have y1 : w7.cell? ⟨B, 1, none⟩ = some (.slice a' nn k') := hLed.cell rfl
  have y2 : w7.cell? ⟨B, 2, none⟩ = some (.int .i64 clo) := hLed.cell rfl
  have hRb : Blk w7 (w.heap.size + 1) 24 [.int .i64 0, .slice none 0 0, .int .i64 0] := by
    have h := (res_blk1 w _).belowS HW.out
    exact h
  have HX := Lib.hid hRb
  have hre := res_facts hRb (.int .i64 acc) (.slice a' nn k') (.int .i64 clo)
  have HRE := Lib.hid hre
  obtain ⟨r1, r2, r3, r4, r5, r6, r7, r8, r9, r10⟩ := hre
  clear hLed hRb hne hR' hnn
  go_wp2
  obtain ⟨_, _, _, _, _, _, _, _, _, r10⟩ := HRE.out
  refine bodyPost_ret (results_list (rs := [.cell 8 24, .tmp 9]) rfl (by simp) (.cell _ _ _ (0, 0) _ rfl r10 Try.underlying24 rfl (by kernel_rfl) (.tmp .nil))) rfl ?_
  refine ⟨_, rfl, ?_, res_below (Below.trans (below2 w _ _) (HW.out.mono (below2 w _ _).size)) (by omega) _ _ _⟩
  exact Kd.R_lower (res_keep HRR.out HX.out _ _ _) (below2 w _ _).size
set_option maxRecDepth 100000 in
set_option maxHeartbeats 4000000 in
theorem Dispute_yes2 (acc clo : Int) (A : Option Addr) (c n : Nat) (ps : List S27) (hl : ps.length = n) (i day amount : Int) (w : World) (hr : Kd.C k27 w A n ps) (hn : n ≤ 1000000) (ho : okAll acc [] ps = true) (hi : inB acc clo = true) (o : Nat) (hio : i = (o : Int)) (h0 : decide (i < 0) = false) (h1 : decide ((n : Int) ≤ i) = false) (hc : decide (0 ≤ amount ∧ amount ≤ 1000000000000) = true) (p : S27) (hp : rd_T27 ps (o : Int) = p) (hb1 : postB acc clo ps (backP p o day) = true) (hap : decide (0 < amount) = true) (hb2 : postB acc clo (ps ++ [backP p o day]) (newP p day amount) = true) :
    Calls Try.prog 15 #[.agg #[.int .i64 acc, .slice A n c, .int .i64 clo], .int .i64 i, .int .i64 day, .int .i64 amount] w fun e w' => ∃ v1 : Value, e = .returned (.tuple #[.agg #[.int .i64 acc, v1, .int .i64 clo], .int .i64 0]) ∧ Kd.R k27 27 w' w.heap.size (fun _ => True) v1 (ps ++ [backP p o day] ++ [newP p day amount]) ∧ Below w.heap.size w w' := by
  have HR := Lib.hid hr
  have HN := Lib.hid hn
  have HL := Lib.hid hl
  have HO := Lib.hid ho
  have HI := Lib.hid hi
  have HC := Lib.hid hc
  have HPS := Lib.hid (okAll_200 ho)
  have HP := Lib.hid hp
  have HIO := Lib.hid hio
  have HB1 := Lib.hid hb1
  have HB2 := Lib.hid hb2
  have HPS2 := Lib.hid (post_len hb1)
  clear hb1 hb2
  clear hr ho hi hl hn hc hp hio
  go_enter Try.func15, Try.ntmps15
  go_upto_region 4 with (first | (go_at_call 28; refine (open_yes' acc clo A c n ps HL.out _ (Kd.C_alloc (Kd.C_alloc HR.out _) _) HN.out HO.out true HI.out).mono ?_; rintro e w2 ⟨B, rfl, hL2⟩; have hps := arg_ps w _ hL2.1) | (go_at_call 32; (with_reducible refine (isIn_walk' amount 0 1000000000000 true HC.out _).mono ?_); rintro e w4 ⟨rfl, hd4⟩; have hp4 := keepB hd4.below hps; have HL4 := Lib.hid (hL2.below hd4.below)) | fail)
  clear hL2 hps
  obtain rfl := HIO.out
  clear HIO
  have HC4 := Lib.hid (Kd.C_below (Kd.C_alloc (Kd.C_alloc HR.out _) _) HL4.out.1)
  obtain ⟨ad, rfl, x0, x1, x2, x3, x4, x5, x6⟩ := at_T27 HC4.out (o : Int) (by omega) (by have := of_decide_eq_false h1; omega)
  rw [HP.out] at x0 x1 x2 x3 x4 x5 x6
  rw [Int.toNat_natCast] at x0 x1 x2 x3 x4 x5 x6
  have hon : (o : Int) < (n : Int) := by have := of_decide_eq_false h1; omega
  go_upto_region 6 with (first | fail)
  clear x0 x1 x2 x3 x4 x5 x6
  obtain ⟨m1, m2, m3, m4, m5, m6, m7⟩ := disp_mem w4 p o day amount
  change Code.wp _ _ _ _ (dispW w4 p o day)
  have HM5 := Lib.hid m5
  have HM6 := Lib.hid m6
  have HL6 := Lib.hid (HL4.out.below m7)
  clear m5 m6
  generalize dispW w4 p o day = w5 at *
  go_upto_region 7 with (first | fail)
  have HQB := Lib.hid (show w4.heap.size ≠ B from fun e => by obtain ⟨_, _, _, hld, _⟩ := HL4.out; have := hld.lt; omega)
  have HQV : Hid (∀ v, ((w5.setCell ⟨w4.heap.size, 1, none⟩ (.int .i64 day)).setCell ⟨w4.heap.size, 4, none⟩ (.int .i64 amount)).cell? ⟨B, 1, none⟩ = some v → some w4.heap.size ≠ v.ownBlock) := Lib.hid (disp_own HL4.out m7)
  generalize (w5.setCell ⟨w4.heap.size, 1, none⟩ (.int .i64 day)).setCell ⟨w4.heap.size, 4, none⟩ (.int .i64 amount) = w6 at *
  generalize w4.heap.size = q at *
  clear m1 m2 m3 m4 m7 hp4
  obtain ⟨z0, z1, z2, z3, z4, z5, z6⟩ := bk_cells HM6.out
  go_upto_region 9 with (first | (go_at_call 29; (with_reducible refine (post_back _ _ B acc clo ps p o day HL6.out HPS.out (clo_of HI.out) true HB1.out).mono ?_); rintro e w7 ⟨rfl, hL7, hFr7⟩; have HL7 : Hid (Ledger _ w7 B acc clo (ps ++ [backP p o day])) := Lib.hid hL7; clear hL7; clear z0 z1 z2 z3 z4 z5 z6; obtain ⟨z0, z1, z2, z3, z4, z5, z6⟩ := nw_cells (hFr7 _ _ _ HM5.out HQB.out HQV.out); clear hFr7) | (go_at_call 29; (with_reducible refine (post_new _ _ B acc clo (ps ++ [backP p o day]) p day amount HL7.out HPS2.out (clo_of HI.out) true HB2.out).mono ?_); rintro e w8 ⟨rfl, hL8⟩; have HL8 : Hid (Ledger _ w8 B acc clo (ps ++ [backP p o day] ++ [newP p day amount])) := Lib.hid hL8; clear hL8) | fail)
  have HB := Lib.hid HL8.out.2.1
  have HW := Lib.hid HL8.out.1
  obtain ⟨a', k', nn, hnn, hLed, hR', hne⟩ := led_own HL8.out
  have HNN := Lib.hid hnn
  have HRR := Lib.hid hR'
  have y0 : w8.cell? ⟨B, 0, none⟩ = some (.int .i64 acc) := hLed.cell rfl
  have y1 : w8.cell? ⟨B, 1, none⟩ = some (.slice a' nn k') := hLed.cell rfl
  have y2 : w8.cell? ⟨B, 2, none⟩ = some (.int .i64 clo) := hLed.cell rfl
  have hRb : Blk w8 (w.heap.size + 1) 24 [.int .i64 0, .slice none 0 0, .int .i64 0] := by
    have h := (res_blk1 w _).belowS HW.out
    exact h
  have HX := Lib.hid hRb
  have hre := res_facts hRb (.int .i64 acc) (.slice a' nn k') (.int .i64 clo)
  have HRE := Lib.hid hre
  obtain ⟨r1, r2, r3, r4, r5, r6, r7, r8, r9, r10⟩ := hre
  clear hLed hRb hne hR' hnn
  go_wp2
  obtain ⟨_, _, _, _, _, _, _, _, _, r10⟩ := HRE.out
  refine bodyPost_ret (results_list (rs := [.cell 8 24, .tmp 9]) rfl (by simp) (.cell _ _ _ (0, 0) _ rfl r10 Try.underlying24 rfl (by kernel_rfl) (.tmp .nil))) rfl ?_
  refine ⟨_, rfl, ?_, res_below (Below.trans (below2 w _ _) (HW.out.mono (below2 w _ _).size)) (by omega) _ _ _⟩
  exact Kd.R_lower (res_keep HRR.out HX.out _ _ _) (below2 w _ _).size
end Go.Proofs.Ytooogaogbffjfaa.Ext
end
section
/-
  A loop over an iterator that reads some blocks: the body keeps them, the loop runs over all of a known list.
-/
namespace Go.Proofs.Ytooogaogbffjfaa.Ext
open Go.RowKit Go.Shelf
attribute [local go_sem] Oper.semAt_some
variable {F : Fence} {n : Nat} {P : Program}
/-- What the iterator owes: all of xs in its order, whatever invariant abides new blocks and the iterator's own stores to Z. -/
def GivesAllK {α : Type} (F : Fence) (n : Nat) (P : Program) (g : Nat) (lb : Array Value) (encs : α → Array Value) (xs : List α) (KS : Nat → Prop) (w : World) : Prop :=
  ∀ (l : Nat) (J : List α → World → Prop) (W : World), Below w.heap.size w W → AbidesFrom W.heap.size J →
    (∀ pre x W1, J pre W1 → pre ++ [x] <+: xs → YieldAt F (n - 1) P l (encs x) W1 fun e W' => e = .returned (.bool true) ∧ J (pre ++ [x]) W' ∧ ∀ k, KS k → W'.heap[k]? = W1.heap[k]?) →
    J [] W → CallsIn F n P g (#[.func (.yield l) #[] #[]] ++ lb) W fun e W' => (∃ v, e = .returned v) ∧ J xs W'
/-- How the body of a round ends: it always goes on. -/
def goesOnK {α : Type} (B : Nat) (KS : Nat → Prop) (I : List α → World → Prop) (xs : List α) (W : World) : Exit → Act → World → Prop
  | .normal, _, W' => KeepsFrom B W W' ∧ (∀ k, KS k → W'.heap[k]? = W.heap[k]?) ∧ I xs W'
  | _, _, _ => False
theorem wpIn_rangeFunc_keepA {α : Type} {g : Operand} {ps : Array Tmp} {assign body : Code} {Q : Exit → Act → World → Prop} {a : Act} {w : World}
    (hro : F.round = none) (h1 : 1 ≤ n) {gf : Nat} {lb : Array Value} (hg : a.eval g = .func (.func gf) #[] lb) (hFg : F.fn gf) (eg : ∀ args w, (callFunc gf args).run P w = .ok (.enter gf args) w)
    {encs : α → Array Value} {xs : List α} {KS : Nat → Prop} {w0 : World} (hZ : ∀ k, KS k → k < w.heap.size) (hseq : GivesAllK F (n - 1) P gf lb encs xs KS w0) (hb0 : Below w0.heap.size w0 w) (hps : ∀ x, (encs x).size = ps.size)
    (I : List α → World → Prop) (hI : OwnFrom w.heap.size I) (h0 : I [] w) (Ax : α → Act → World → Prop) (hAx : ∀ x a', OwnFrom w.heap.size (fun (_ : Unit) W => Ax x a' W))
    (hassign : ∀ (l : Nat) (x : α) (W : World) (K : Act → World → Prop), w.heap.size ≤ W.heap.size → (∀ a' W', W.grownBy W' none → Ax x a' W' → K a' W') →
      assign.wpIn (F.inRound l) (n - 1 - 1) P (Exit.then K (fun _ _ _ => False)) { tmps := (ps.zip (encs x)).foldl (fun t (p, v) => t.setIfInBounds p v) a.tmps, defers := [] } W)
    (hbody : ∀ (l : Nat) (pre : List α) (x : α) (a' : Act) (W : World), I pre W → Ax x a' W → pre ++ [x] <+: xs → body.wpIn (F.inRound l) (n - 1 - 1) P (goesOnK w.heap.size KS I (pre ++ [x]) W) a' W)
    (hdone : ∀ (D : Nat) (W : World), w.heap.size ≤ D → I xs W → W.heap[D]? = some (.deferred (some [])) → Q .normal { a with defers := { target := .collected D, args := #[] } :: a.defers } W) :
    (Code.rangeFunc g ps assign body).wpIn F n P Q a w := by
  refine wpIn_rangeFunc ?_
  intro fn hfn
  rw [hro]
  obtain ⟨rec, hrec⟩ : ∃ rec : LoopState → Option Code → Loop, rec = fun st pe => { state := st, pending := pe, fn, tmps := a.tmps, params := ps, assign, body, defers := w.heap.size } := ⟨_, rfl⟩
  obtain ⟨W1, hW1⟩ : ∃ W1, (w.alloc (.deferred (some []))).alloc (.loop (rec .ready none)) = W1 := ⟨_, rfl⟩
  have hL1 : W1.heap[w.heap.size + 1]? = some (.loop (rec .ready none)) := by
    rw [← hW1]; have := World.alloc_heap_new (w.alloc (.deferred (some []))) (.loop (rec .ready none)); rwa [World.size_alloc] at this
  have hK1 : W1.heap[w.heap.size]? = some (.deferred (some [])) := by
    rw [← hW1]; exact (Below.heap_alloc _ _ _ (by simp)).trans (World.alloc_heap_new w _)
  have hb1 : Below w0.heap.size w0 W1 := by
    rw [← hW1]; exact hb0.trans ((((Below.refl _ w).alloc (Nat.le_refl _) _).alloc (by simp) _).mono hb0.size)
  have hI1 : I [] W1 := by rw [← hW1]; exact hI.alloc _ (hI.alloc _ h0)
  refine ⟨w.heap.size + 1, [{ target := .collected w.heap.size, args := #[] }], W1, { target := .fn (.func gf) lb, args := #[.func (.yield (w.heap.size + 1)) #[] #[]] }, W1, gf,
    #[.func (.yield (w.heap.size + 1)) #[] #[]] ++ lb, W1, ?_, ?_, ?_, ?_, fun _ => h1, ?_⟩
  · rw [← hW1, hrec]; exact run_enterLoop_outer _ _ _ _ _
  · simp only [resolve, hg]
    simp [go_sem]
  · intro f' hf'; simp [Target.leads] at hf'; subst hf'; exact hFg
  · simp [invoke, go_sem, eg]
  · have far : ∀ {A B : World} {row : Option Nat}, (∀ r, row = some r → W1.heap.size ≤ r ∧ ∃ o : Obj, A.heap[r]? = some o ∧ o.isWalk = true) → (∀ r, row = some r → w.heap.size ≤ r ∧ ∃ o : Obj, A.heap[r]? = some o ∧ o.isCells = false) :=
      fun hr r e => by obtain ⟨hB, o, ho, hw⟩ := hr r e; exact ⟨by rw [← hW1] at hB; simp at hB; omega, o, ho, Obj.not_cells_of_walk hw⟩
    refine (hseq (w.heap.size + 1) (fun pre W => I pre W ∧ W.heap[w.heap.size + 1]? = some (.loop (rec .ready none)) ∧ W.heap[w.heap.size]? = some (.deferred (some []))) W1 hb1
      (fun s A B row hs hg' hr => ⟨hI s A B row hs.1 hg' (far (B := B) hr), (grownBy_keeps hg' (fun r e => (hr r e).2) hs.2.1 rfl).trans hs.2.1, (grownBy_keeps hg' (fun r e => (hr r e).2) hs.2.2 rfl).trans hs.2.2⟩) ?_ ⟨hI1, hL1, hK1⟩).mono ?_
    · rintro pre x W ⟨hi, hl, hk⟩ hpre
      have hlt : w.heap.size + 1 < W.heap.size := (Array.getElem?_eq_some_iff.1 hl).1
      have hy := run_yield (P := P) (args := encs x) hl (by rw [hrec]; exact hps x)
      rw [hrec] at hy
      refine ⟨fn, _, assign, body, hy, roundIn_of_wpIn hfn (hassign _ x W _ (by omega) (fun a' Wa hga hax => ?_))⟩
      have hlA : Wa.heap[w.heap.size + 1]? = some (.loop (rec .ready none)) := (hga.block _ hlt (by simp)).trans hl
      have hkA : Wa.heap[w.heap.size]? = some (.deferred (some [])) := (hga.block _ (by omega) (by simp)).trans hk
      have hiA : I pre Wa := hI pre W Wa none hi hga (fun r e => by cases e)
      have hltA : w.heap.size + 1 < Wa.heap.size := (Array.getElem?_eq_some_iff.1 hlA).1
      refine ⟨_, run_beginRound hlA (by rw [hrec]), ?_⟩
      have hl2 : (Wa.putObj (w.heap.size + 1) (.loop { rec .ready none with state := .busy })).heap[w.heap.size + 1]? = some (.loop { rec .ready none with state := .busy }) := World.putObj_heap_same hltA
      have hk2 : (Wa.putObj (w.heap.size + 1) (.loop { rec .ready none with state := .busy })).heap[w.heap.size]? = some (.deferred (some [])) := (World.putObj_heap_other (by omega)).trans hkA
      have hc2 : ∀ k, KS k → (Wa.putObj (w.heap.size + 1) (.loop { rec .ready none with state := .busy })).heap[k]? = W.heap[k]? := fun k hk => (World.putObj_heap_other (by have := hZ k hk; omega)).trans (hga.block k (by have := hZ k hk; omega) (by simp))
      refine wpIn_mono (hbody _ pre x a' _ (hI.putObj _ hiA (by omega) hlA rfl) ((hAx x a').putObj (s := ()) _ hax (by omega) hlA rfl) hpre) ?_
      rintro e a3 W3 hp
      cases e with
      | normal =>
        obtain ⟨hk3, hc3, hi3⟩ := hp
        have hl3 := hk3.same _ _ (by omega) hl2 rfl
        have hr := run_endRound (P := P) none hl3
        rw [hrec] at hl3
        rw [hrec] at hr
        have hc4 : ∀ k, KS k → (W3.putObj (w.heap.size + 1) (.loop (rec .ready none))).heap[k]? = W3.heap[k]? := fun k hk => World.putObj_heap_other (by have := hZ k hk; omega)
        rw [hrec] at hc4
        refine ⟨_, _, hr, rfl, ⟨hI.putObj _ hi3 (by omega) hl3 rfl, ?_, ?_⟩, fun k hk => (hc4 k hk).trans ((hc3 k hk).trans (hc2 k hk))⟩
        · rw [hrec]; exact World.putObj_heap_same (Array.getElem?_eq_some_iff.1 hl3).1
        · exact (World.putObj_heap_other (by omega)).trans (hk3.same _ _ (Nat.le_refl _) hk2 rfl)
      | ret => exact hp.elim
      | exit id => exact hp.elim
      | goto t => exact hp.elim
      | panic ch => exact hp.elim
      | outgrown => exact hp.elim
    · rintro e W2 ⟨⟨v, rfl⟩, hi, hl, hk⟩
      exact ⟨none, _, by have := run_endLoop (P := P) hl (by rw [hrec]; simp); rw [hrec] at this; exact this, hdone _ _ (Nat.le_refl _) (hI.putObj _ hi (by omega) hl rfl) ((World.putObj_heap_other (by omega)).trans hk)⟩
/-! ### The wide fence: everything but the body of a round in plain walks -/
theorem calls_of_wp_marks {P : Program} {f : FuncId} {fn : Func} {c : Code} {args : Array Value} {w : World} {R : Ending → World → Prop} (hf : P.funcs[f]? = some fn) (hb : fn.body = some c)
    (h : c.wp P (bodyPostM Fence.wide 5 P fn R) { tmps := args ++ Array.replicate (fn.ntmps - args.size) undef, defers := [] } w) : Calls P f args w R :=
  (callsIn_wide (n := 5)).1 (callsIn_of_wp_marks hf hb trivial (wpIn_wide.2 h) rfl)
def roundAct (ps : Array Tmp) (tmps : Array Value) (d p : Nat) (vs : Array Value) : Act :=
  { tmps := ((ps.zip vs).foldl (fun t (p, v) => t.setIfInBounds p v) tmps).setIfInBounds d (((ps.zip vs).foldl (fun t (p, v) => t.setIfInBounds p v) tmps).getD p undef), defers := [] }
/-- the act of a round whose variable lies in a block B of its own -/
def boxAct (ps : Array Tmp) (tmps : Array Value) (d B : Nat) (vs : Array Value) : Act :=
  { tmps := ((ps.zip vs).foldl (fun t (p, v) => t.setIfInBounds p v) tmps).setIfInBounds d (.pointer (some ⟨B, 0, none⟩)), defers := [] }
theorem wp_rangeFunc_box {α : Type} {P : Program} {g : Operand} {ps : Array Tmp} {d : Nat} {T : TypeId} {assign body : Code} {Q : Exit → Act → World → Prop} {a : Act} {w : World}
    {gf : Nat} {lb : Array Value} (hg : a.eval g = .func (.func gf) #[] lb) (eg : ∀ args w, (callFunc gf args).run P w = .ok (.enter gf args) w)
    {encs : α → Array Value} {xs : List α} {KS : Nat → Prop} {w0 : World} (hZ : ∀ k, KS k → k < w.heap.size) (hseq : GivesAllK Fence.wide 4 P gf lb encs xs KS w0) (hb0 : Below w0.heap.size w0 w) (hps : ∀ x, (encs x).size = ps.size)
    (C : α → List Value) (hassign : ∀ (l : Nat) (x : α) (W : World) (K : Act → World → Prop), K (boxAct ps a.tmps d W.heap.size (encs x)) (W.alloc (.cells (C x).toArray T)) →
      assign.wpIn (Fence.wide.inRound l) 3 P (Exit.then K (fun _ _ _ => False)) { tmps := (ps.zip (encs x)).foldl (fun t (p, v) => t.setIfInBounds p v) a.tmps, defers := [] } W)
    (I : List α → World → Prop) (hI : OwnFrom w.heap.size I) (h0 : I [] w)
    (hbody : ∀ (l : Nat) (pre : List α) (x : α) (B : Nat) (W : World), I pre W → Blk W B T (C x) → w.heap.size ≤ B → pre ++ [x] <+: xs → body.wpIn (Fence.wide.inRound l) 3 P (goesOnK w.heap.size KS I (pre ++ [x]) W) (boxAct ps a.tmps d B (encs x)) W)
    (hdone : ∀ (D : Nat) (W : World), w.heap.size ≤ D → I xs W → W.heap[D]? = some (.deferred (some [])) → Q .normal { a with defers := { target := .collected D, args := #[] } :: a.defers } W) :
    (Code.rangeFunc g ps assign body).wp P Q a w := by
  refine (wpIn_wide (n := 5)).1 (wpIn_rangeFunc_keepA (F := Fence.wide) (n := 5) rfl (by decide) hg trivial eg hZ hseq hb0 hps I hI h0
    (fun x a' W => ∃ B, a' = boxAct ps a.tmps d B (encs x) ∧ (∃ o : Obj, o.isCells = true ∧ W.heap[B]? = some o) ∧ Blk W B T (C x) ∧ w.heap.size ≤ B) ?_ ?_ ?_ hdone)
  · rintro x a' s W W' row ⟨B, ha, ho, hb, hB⟩ hgr hr
    have hne : some B ≠ row := fun e => by
      obtain ⟨_, o, ho', hc'⟩ := hr B e.symm
      rw [hb.heap] at ho'
      injection ho' with ho'
      subst ho'
      simp [Obj.isCells] at hc'
    exact ⟨B, ha, ⟨_, rfl, (hb.grown hgr hne).heap⟩, hb.grown hgr hne, hB⟩
  · intro l x W K hsz hK
    refine hassign l x W K (hK _ _ (World.grownBy_alloc W _ none) ⟨W.heap.size, rfl, ⟨_, rfl, (Blk.new W T (C x)).heap⟩, Blk.new W T (C x), hsz⟩)
  · rintro l pre x a' W hI' ⟨B, rfl, _, hb, hB⟩ hpre
    exact hbody l pre x B W hI' hb hB hpre
theorem own_blk {β : Type} {B g : Nat} {t : TypeId} (C : β → List Value) (hg : g < B) : OwnFrom B (fun s W => Blk W g t (C s)) := fun s W W' row hs hgr hr => hs.grown hgr (fun e => by have := (hr g e.symm).1; omega)
theorem own_grown {β : Type} {B : Nat} {w : World} (r : Option Nat) (hB : w.heap.size ≤ B) : OwnFrom B (fun (_ : β) W => w.grownBy W r) := fun s W W' row hs hgr hr =>
  ⟨hgr.os.trans hs.os, hgr.tape.trans hs.tape, hgr.output.trans hs.output, Nat.le_trans hs.size hgr.size, fun k hk hne => (hgr.block k (Nat.lt_of_lt_of_le hk hs.size) (fun e => by have := (hr k e.symm).1; omega)).trans (hs.block k hk hne)⟩
theorem keeps_grown {W W' : World} {B g : Nat} (h : W.grownBy W' (some g)) (hg : g < B) : KeepsFrom B W W' := ⟨h.size, fun k o hk h0 _ => (h.block k (Array.getElem?_eq_some_iff.1 h0).1 (fun e => by cases e; omega)).trans h0⟩
end Go.Proofs.Ytooogaogbffjfaa.Ext
end
section
/-
  Balances: add, list.
-/
set_option linter.unusedVariables false
set_option linter.unusedSimpArgs false
namespace Go.Proofs.Ytooogaogbffjfaa.Ext
open Go.RowKit Go.Proofs.YtooogaogbffjfaaW.PrintWords Go.Proofs.YtooogaogbffjfaaW.PrintLast Go.Proofs.YtooogaogbffjfaaW.PrintMore Go.Proofs.Ytooogaogbffjfaa.PK Go.Proofs.Ytooogaogbffjfaa.Bk
attribute [local go_sem] Oper.semAt_some
def ints (l : List Int) : List Value := l.map (Value.int .i64)
theorem ints_len (l : List Int) : (ints l).length = l.length := by simp [ints]
theorem ints_get {l : List Int} {j : Nat} {x : Int} (h : l[j]? = some x) : (ints l)[j]? = some (.int .i64 x) := by simp [ints, h]
theorem ints_set (l : List Int) (j : Nat) (x : Int) : (ints l).set j (.int .i64 x) = ints (l.set j x) := by simp [ints, List.map_set]
/-- the balances behind a posting -/
def addB (bs : List Int) (p : S27) : List Int := (bs.set p.f3.toNat (bs.getD p.f3.toNat 0 + p.f4)).set p.f2.toNat (bs.getD p.f2.toNat 0 - p.f4)
theorem addB_len (bs : List Int) (p : S27) : (addB bs p).length = bs.length := by simp [addB]
theorem grown_set (w : World) (g k : Nat) (v : Value) : w.grownBy (w.setCell ⟨g, k, none⟩ v).drew (some g) := by
  have h := grown_setCells (b := g) [v] k w
  exact ⟨h.os, h.tape, h.output, h.size, h.block⟩
set_option maxRecDepth 100000 in
set_option maxHeartbeats 2000000 in
theorem add_walk (g : Nat) (bs : List Int) (hl : bs.length = 16) (p : S27) (c d : Nat) (hc : p.f3 = (c : Int)) (hd : p.f2 = (d : Int)) (hc2 : c < 16) (hd2 : d < 16) (hne : d ≠ c) (x y : Int) (hx : bs[c]? = some x) (hy : bs[d]? = some y) (x1 y1 : Int) (hx1 : IntKind.i64.wrap (x + p.f4) = x1) (hy1 : IntKind.i64.wrap (y - p.f4) = y1) (w : World) (hB : Blk w g 63 (ints bs)) :
    Calls Try.prog 35 #[.pointer (some ⟨g, 0, none⟩), pv p] w fun e w' => e = .returned (.tuple #[]) ∧ w.grownBy w' (some g) ∧ Blk w' g 63 (ints ((bs.set c x1).set d y1)) := by
  have hBa := hB.alloc (.cells #[.int .i64 p.f0, .int .i64 p.f1, .int .i64 (d : Int), .int .i64 (c : Int), .int .i64 p.f4, .int .i64 p.f5, .int .i64 p.f6] 27)
  have e2 : (w.alloc (.cells #[.int .i64 p.f0, .int .i64 p.f1, .int .i64 (d : Int), .int .i64 (c : Int), .int .i64 p.f4, .int .i64 p.f5, .int .i64 p.f6] 27)).cell? ⟨w.heap.size, 2, none⟩ = some (.int .i64 (d : Int)) := c_new _ _ _ _ _ _ rfl rfl
  have e3 : (w.alloc (.cells #[.int .i64 p.f0, .int .i64 p.f1, .int .i64 (d : Int), .int .i64 (c : Int), .int .i64 p.f4, .int .i64 p.f5, .int .i64 p.f6] 27)).cell? ⟨w.heap.size, 3, none⟩ = some (.int .i64 (c : Int)) := c_new _ _ _ _ _ _ rfl rfl
  have e4 : (w.alloc (.cells #[.int .i64 p.f0, .int .i64 p.f1, .int .i64 (d : Int), .int .i64 (c : Int), .int .i64 p.f4, .int .i64 p.f5, .int .i64 p.f6] 27)).cell? ⟨w.heap.size, 4, none⟩ = some (.int .i64 p.f4) := c_new _ _ _ _ _ _ rfl rfl
  have hgw := hB.lt
  have hg0 : w.grownBy (w.alloc (.cells #[.int .i64 p.f0, .int .i64 p.f1, .int .i64 (d : Int), .int .i64 (c : Int), .int .i64 p.f4, .int .i64 p.f5, .int .i64 p.f6] 27)) (some g) := below_grown (B := 0) ((Below.refl _ _).alloc (Nat.le_refl _) _) _
  have cg : (w.alloc (.cells #[.int .i64 p.f0, .int .i64 p.f1, .int .i64 (d : Int), .int .i64 (c : Int), .int .i64 p.f4, .int .i64 p.f5, .int .i64 p.f6] 27)).cell? ⟨g, c, none⟩ = some (.int .i64 x) := hBa.cell (ints_get hx)
  have hfne : w.heap.size ≠ g := by omega
  have HY := Lib.hid hy
  have HFN := Lib.hid hfne
  clear hx hy hB hgw hfne
  unfold pv
  rw [hc, hd]
  clear hc hd
  go_enter Try.func35, Try.ntmps35
  go_wp2
  generalize w.alloc (.cells #[.int .i64 p.f0, .int .i64 p.f1, .int .i64 (d : Int), .int .i64 (c : Int), .int .i64 p.f4, .int .i64 p.f5, .int .i64 p.f6] 27) = w1 at *
  have fc : ((c : Int) < 16) = True := eq_true (by omega)
  have fd : ((d : Int) < 16) = True := eq_true (by omega)
  have HG0 := Lib.hid hg0
  have HY1 := Lib.hid hy1
  clear hg0 hy1
  go_still_tail 11, (by kernel_rfl)
  change wpList _ _ _ _ _ w1.drew
  have cf2 : w1.drew.frozen? ⟨g, c, none⟩ = false := hBa.free c
  have cp2 : w1.drew.cell? ⟨g, c, none⟩ = some (.int .i64 x) := cg
  go_wp2
  have hB2 : Blk (w1.setCell ⟨g, c, none⟩ (.int .i64 x1)).drew g 63 (ints (bs.set c x1)) := by
    have h := (hBa.drew).set c (.int .i64 x1)
    rw [ints_set] at h
    exact h
  have HG2 : Hid (w.grownBy (w1.setCell ⟨g, c, none⟩ (.int .i64 x1)).drew (some g)) := Lib.hid (grown_trans HG0.out (grown_set w1 g c _))
  have e2 : (w1.setCell ⟨g, c, none⟩ (.int .i64 x1)).drew.cell? ⟨w.heap.size, 2, none⟩ = some (.int .i64 (d : Int)) := far_set HFN.out e2
  have e4 : (w1.setCell ⟨g, c, none⟩ (.int .i64 x1)).drew.cell? ⟨w.heap.size, 4, none⟩ = some (.int .i64 p.f4) := far_set HFN.out e4
  have cy : (w1.setCell ⟨g, c, none⟩ (.int .i64 x1)).drew.cell? ⟨g, d, none⟩ = some (.int .i64 y) := hB2.cell (ints_get (by rw [List.getElem?_set_ne (by omega)]; exact HY.out))
  clear cf2 cp2 cg hBa hx1
  generalize (w1.setCell ⟨g, c, none⟩ (.int .i64 x1)).drew = w2 at *
  have hy1 := HY1.out
  go_still_tail 11, (by kernel_rfl)
  change wpList _ _ _ _ _ w2.drew
  have cf2 : w2.drew.frozen? ⟨g, d, none⟩ = false := hB2.free d
  have cp2 : w2.drew.cell? ⟨g, d, none⟩ = some (.int .i64 y) := cy
  go_wp2
  go_end0
  refine ⟨rfl, grown_trans HG2.out (grown_set w2 g d _), ?_⟩
  have h := (hB2.drew).set d (.int .i64 y1)
  rw [ints_set] at h
  exact h
end Go.Proofs.Ytooogaogbffjfaa.Ext
end
