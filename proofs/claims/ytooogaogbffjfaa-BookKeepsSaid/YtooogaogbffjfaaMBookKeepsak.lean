import Derived.Test.YtooogaogbffjfaaMBookKeepsaj
import Derived.Deep.LoopGhost
/-
  Texts of this claim, one behind the other: what they prove stands above each.
-/
section
/-
  (*ledger).takes, whole.
-/
set_option linter.unusedVariables false
set_option linter.unusedSimpArgs false
namespace Go.Proofs.Ytooogaogbffjfaa.Ext
open Go.RowKit Go.Proofs.YtooogaogbffjfaaW.PrintWords Go.Proofs.YtooogaogbffjfaaW.PrintLast Go.Proofs.YtooogaogbffjfaaW.PrintMore Go.Proofs.Ytooogaogbffjfaa.PK Go.Proofs.Ytooogaogbffjfaa.Bk
/-- block B holds a ledger with the postings ps, of the call's own -/
def Ledger (ws w : World) (B : Nat) (acc clo : Int) (ps : List S27) : Prop :=
  Below ws.heap.size ws w ∧ ws.heap.size ≤ B ∧ ∃ v, Led w B acc v clo (backs ps) ∧ Kd.R k27 27 w ws.heap.size (fun _ => True) v ps ∧ some B ≠ v.ownBlock ∧ (ps = [] → v = .slice none 0 0)
theorem Ledger.below {ws w w' : World} {B : Nat} {acc clo : Int} {ps : List S27} (h : Ledger ws w B acc clo ps) (hb : Below w.heap.size w w') : Ledger ws w' B acc clo ps := by
  obtain ⟨h1, h2, v, h3, h4, h5, h6⟩ := h
  exact ⟨Below.trans h1 (hb.mono h1.size), h2, v, h3.belowS hb, Kd.R_below h4 hb, h5, h6⟩
theorem formed_of {n : Int} {p : S27} (h : formedB n p = true) : ((p.f0 = 1 ∨ p.f0 = 2) ∧ p.f6 = -1) ∨ (p.f0 = 3 ∧ 0 ≤ p.f6 ∧ p.f6 ≤ 199) := by
  unfold formedB at h
  exact (of_decide_eq_true h).2.2.2.2.2.2
theorem getD_some {l : List Bool} {i : Nat} (h : i < l.length) : l[i]? = some (l.getD i false) := by
  rw [List.getD_eq_getElem?_getD, List.getElem?_eq_getElem h]; rfl
theorem dayOf_last (ps : List S27) (m : Nat) (h : ps.length = m + 1) : dayOf ps = (rd_T27 ps (m : Int)).f1 := by
  unfold dayOf rd_T27
  rw [List.getLast?_eq_getElem?, h, Nat.add_sub_cancel, Int.toNat_natCast, List.getD_eq_getElem?_getD, List.getElem?_eq_getElem (by omega)]
  rfl
/-- what a ledger's call leaves: all blocks but the ledger's and that of its postings -/
def Fram (w w' : World) (B : Nat) : Prop := ∀ (k : Nat) (t : TypeId) (C : List Value), Blk w k t C → k ≠ B → (∀ v, w.cell? ⟨B, 1, none⟩ = some v → some k ≠ v.ownBlock) → Blk w' k t C
theorem takes_frame (ws w : World) (B : Nat) (acc clo : Int) (ps : List S27) (p : S27) (hL : Ledger ws w B acc clo ps) (hps : ps.length ≤ 200) :
    Calls Try.prog 38 #[.pointer (some ⟨B, 0, none⟩), pv p] w fun e w' => e = .returned (.bool (nextB acc ps p)) ∧ Ledger ws w' B acc clo (if nextB acc ps p then ps ++ [p] else ps) ∧ Fram w w' B := by
  have hno : nextB acc ps p = false → (Calls Try.prog 38 #[.pointer (some ⟨B, 0, none⟩), pv p] w fun e w' => e = .returned (.bool false) ∧ Below w.heap.size w w') →
      Calls Try.prog 38 #[.pointer (some ⟨B, 0, none⟩), pv p] w fun e w' => e = .returned (.bool (nextB acc ps p)) ∧ Ledger ws w' B acc clo (if nextB acc ps p then ps ++ [p] else ps) ∧ Fram w w' B := by
    intro hn hc
    rw [hn]
    exact hc.mono fun e w' ⟨he, hb⟩ => ⟨he, hL.below hb, fun k t C hk _ _ => hk.belowS hb⟩
  have hyes (v : Value) (hv : w.cell? ⟨B, 1, none⟩ = some v) (bk : List Bool) (hbk : bk = backs (ps ++ [p])) : nextB acc ps p = true → (Calls Try.prog 38 #[.pointer (some ⟨B, 0, none⟩), pv p] w fun e w' => e = .returned (.bool true) ∧ Below ws.heap.size ws w' ∧ ∃ v', Led w' B acc v' clo bk ∧ Kd.R k27 27 w' ws.heap.size (fun _ => True) v' (ps ++ [p]) ∧ some B ≠ v'.ownBlock ∧ (∀ (k : Nat) (t : TypeId) (C : List Value), Blk w k t C → k ≠ B → some k ≠ v.ownBlock → Blk w' k t C)) →
      Calls Try.prog 38 #[.pointer (some ⟨B, 0, none⟩), pv p] w fun e w' => e = .returned (.bool (nextB acc ps p)) ∧ Ledger ws w' B acc clo (if nextB acc ps p then ps ++ [p] else ps) ∧ Fram w w' B := by
    intro hn hc
    rw [hn]
    subst hbk
    exact hc.mono fun e w' ⟨he, hb, v', h1, h2, h3, h4⟩ => ⟨he, ⟨hb, hL.2.1, v', h1, h2, h3, fun e => by simp at e⟩, fun k t C hk hkB hkv => h4 k t C hk hkB (hkv v hv)⟩
  obtain ⟨hbel, hBb, v, hB, hR, hne, h0⟩ := hL
  by_cases hfull : 200 ≤ ps.length
  · obtain ⟨A, c, rfl⟩ := Kd.R_slice hR
    exact hno (by unfold nextB; rw [decide_eq_false (by omega), Bool.false_and]) (takes_full B acc clo A c ps.length _ p w hB hfull)
  have hlt : decide (ps.length < 200) = true := decide_eq_true (by omega)
  cases hf : formedB acc p with
  | false =>
    obtain ⟨A, c, rfl⟩ := Kd.R_slice hR
    exact hno (by unfold nextB; rw [hf, Bool.false_and, Bool.and_false]) (takes_odd B acc clo A c ps.length _ p w hB (by omega) hf)
  | true =>
    have hform := formed_of hf
    by_cases hnil : ps = []
    · obtain rfl := h0 hnil
      subst hnil
      by_cases hk : p.f0 = 3
      · obtain ⟨o, ho⟩ := Int.eq_ofNat_of_zero_le (show 0 ≤ p.f6 by rcases hform with h | h <;> omega)
        refine hno ?_ (takes_none ws B acc clo _ p w hbel hBb hB hf o ho hk)
        unfold nextB
        rw [decide_eq_false (show ¬ p.f0 ≠ 3 by omega), decide_eq_false (show ¬ p.f6 < (([] : List S27).length : Int) by simp; omega)]
        simp
      · refine hyes _ (hB.cell rfl) (backs []) (backs_other [] p hk).symm ?_ (takes_first ws B acc clo _ p w hbel hBb hB hf hk)
        unfold nextB
        rw [hf, decide_eq_true (show p.f0 ≠ 3 from hk)]
        simp
    · have hpos : 0 < ps.length := List.length_pos_iff.2 hnil
      obtain ⟨ad, c, rfl⟩ := Kd.R_slice1 hR hpos
      obtain ⟨m, hm⟩ : ∃ m, ps.length = m + 1 := ⟨ps.length - 1, by omega⟩
      obtain ⟨_, _, hC⟩ := Kd.R_reads' hR
      obtain ⟨ad', ead, _, hq, _⟩ := at_T27 hC (m : Int) (by omega) (by omega)
      obtain rfl := Option.some.inj ead
      rw [Int.toNat_natCast] at hq
      have hday := dayOf_last ps m hm
      by_cases hd : p.f1 < (rd_T27 ps (m : Int)).f1
      · refine hno ?_ (takes_day B acc clo ad c ps.length m hm _ p (rd_T27 ps (m : Int)) w hB (by omega) hf hq hd)
        unfold nextB
        rw [decide_eq_false (show ¬ (ps = [] ∨ dayOf ps ≤ p.f1) by rw [hday]; exact fun h => h.elim (fun h => hnil h) (fun h => by omega))]
        simp
      · have hdo : decide (ps = [] ∨ dayOf ps ≤ p.f1) = true := decide_eq_true (.inr (by rw [hday]; omega))
        by_cases hk : p.f0 = 3
        · obtain ⟨o, ho⟩ := Int.eq_ofNat_of_zero_le (show 0 ≤ p.f6 by rcases hform with h | h <;> omega)
          have ho2 : o ≤ 199 := by rcases hform with h | h <;> omega
          by_cases hon : o < ps.length
          · have hgd := getD_some (l := backs ps) (i := o) (by rw [backs_len]; omega)
            have hu : rd_T27 ps (o : Int) = ps.getD o z27 := by unfold rd_T27; rw [Int.toNat_natCast]
            have hnx : nextB acc ps p = (!((backs ps).getD o false) && isBackB p (ps.getD o z27)) := by
              unfold nextB
              rw [hlt, hf, hdo, decide_eq_false (show ¬ p.f0 ≠ 3 by omega), ho, decide_eq_true (show (o : Int) < (ps.length : Int) by omega), Int.toNat_natCast]
              simp
            cases hb : (backs ps).getD o false with
            | true =>
              rw [hb] at hgd
              exact hno (by rw [hnx, hb]; rfl) (takes_twice ws B acc clo ad c ps.length m o hm _ ps p _ w hbel hBb hB hR (by omega) hne (by omega) hf hq hd hk ho hon hgd)
            | false =>
              rw [hb] at hgd
              cases hi : isBackB p (rd_T27 ps (o : Int)) with
              | false => exact hno (by rw [hnx, hb, ← hu, hi]; rfl) (takes_unlike ws B acc clo ad c ps.length m o hm _ ps p _ w hbel hBb hB hR (by omega) hne (by omega) hf hq hd hk ho hon hgd hi)
              | true => exact hyes _ (hB.cell rfl) ((backs ps).set o true) (backs_set ps p hk o ho (by omega)).symm (by rw [hnx, hb, ← hu, hi]; rfl) (takes_back ws B acc clo ad c ps.length m o hm _ ps p _ w hbel hBb hB hR (by omega) hne (by omega) hf hq hd hk ho hon hgd hi)
          · refine hno ?_ (takes_late ws B acc clo ad c ps.length m o hm _ ps p _ w hbel hBb hB hR (by omega) hne (by omega) hf hq hd hk ho (by omega))
            unfold nextB
            rw [decide_eq_false (show ¬ p.f0 ≠ 3 by omega), decide_eq_false (show ¬ p.f6 < (ps.length : Int) by omega)]
            simp
        · refine hyes _ (hB.cell rfl) (backs ps) (backs_other ps p hk).symm ?_ (takes_add ws B acc clo ad c ps.length m hm _ ps p _ w hbel hBb hB hR (by omega) hne (by omega) hf hq hd hk)
          unfold nextB
          rw [hlt, hf, hdo, decide_eq_true (show p.f0 ≠ 3 from hk)]
          simp
theorem takes_walk (ws w : World) (B : Nat) (acc clo : Int) (ps : List S27) (p : S27) (hL : Ledger ws w B acc clo ps) (hps : ps.length ≤ 200) :
    Calls Try.prog 38 #[.pointer (some ⟨B, 0, none⟩), pv p] w fun e w' => e = .returned (.bool (nextB acc ps p)) ∧ Ledger ws w' B acc clo (if nextB acc ps p then ps ++ [p] else ps) :=
  (takes_frame ws w B acc clo ps p hL hps).mono fun e w' h => ⟨h.1, h.2.1⟩
theorem Fram.lift {w wd w2 : World} {B : Nat} (hbw : Below w.heap.size w wd) (h : Fram wd w2 B) {v0 : Value} (hv : w.cell? ⟨B, 1, none⟩ = some v0) : Fram w w2 B := fun k t C hk hkB hkv => h k t C (hk.belowS hbw) hkB fun v hv2 => by
  rw [keepB hbw hv] at hv2
  exact hkv v (hv.trans hv2)
theorem Fram.stay {w w2 : World} {B : Nat} (h : Below w.heap.size w w2) : Fram w w2 B := fun k t C hk _ _ => hk.belowS h
end Go.Proofs.Ytooogaogbffjfaa.Ext
end
section
/-
  open: a ledger with a copy of a book.
-/
set_option linter.unusedVariables false
set_option linter.unusedSimpArgs false
namespace Go.Proofs.Ytooogaogbffjfaa.Ext
open Go.RowKit Go.Proofs.YtooogaogbffjfaaW.PrintWords Go.Proofs.YtooogaogbffjfaaW.PrintLast Go.Proofs.YtooogaogbffjfaaW.PrintMore Go.Proofs.Ytooogaogbffjfaa.PK Go.Proofs.Ytooogaogbffjfaa.Bk
attribute [local go_sem] Oper.semAt_some
/-- whether all of some postings may come behind others -/
def okAll (n : Int) : List S27 → List S27 → Bool
  | _, [] => true
  | pre, p :: r => nextB n pre p && okAll n (pre ++ [p]) r
theorem okAll_step (n : Int) (ps : List S27) (k : Nat) (hk : k < ps.length) : okAll n (ps.take k) (ps.drop k) = (nextB n (ps.take k) (rd_T27 ps (k : Int)) && okAll n (ps.take (k + 1)) (ps.drop (k + 1))) := by
  have e : rd_T27 ps (k : Int) = ps[k] := by unfold rd_T27; rw [Int.toNat_natCast, List.getD_eq_getElem?_getD, List.getElem?_eq_getElem hk]; rfl
  rw [List.drop_eq_getElem_cons hk, okAll, e, List.take_add_one, List.getElem?_eq_getElem hk]
  rfl
theorem next_len {n : Int} {l : List S27} {p : S27} (h : nextB n l p = true) : l.length < 200 := by
  unfold nextB at h
  by_cases hl : l.length < 200
  · exact hl
  · rw [decide_eq_false hl, Bool.false_and] at h; cases h
def inB (acc clo : Int) : Bool := decide ((2 ≤ acc ∧ acc ≤ 16) ∧ (0 ≤ clo ∧ clo ≤ 12))
theorem isIn_walk (a b c : Int) (w : World) : Calls Try.prog 32 #[.int .i64 a, .int .i64 b, .int .i64 c] w fun e w' => e = .returned (.bool (decide (b ≤ a ∧ a ≤ c))) ∧ Drawn0 w w' := book_isIn.calls a b c _ w (isIn_is a b c)
theorem isIn_walk' (a b c : Int) (r : Bool) (h : decide (b ≤ a ∧ a ≤ c) = r) (w : World) : Calls Try.prog 32 #[.int .i64 a, .int .i64 b, .int .i64 c] w fun e w' => e = .returned (.bool r) ∧ Drawn0 w w' := h ▸ isIn_walk a b c w
theorem takes_walk' (ws w : World) (B : Nat) (acc clo : Int) (ps : List S27) (p : S27) (r : Bool) (h : nextB acc ps p = r) (hL : Ledger ws w B acc clo ps) (hps : ps.length ≤ 200) :
    Calls Try.prog 38 #[.pointer (some ⟨B, 0, none⟩), .agg #[.int .i64 p.f0, .int .i64 p.f1, .int .i64 p.f2, .int .i64 p.f3, .int .i64 p.f4, .int .i64 p.f5, .int .i64 p.f6]] w fun e w' => e = .returned (.bool r) ∧ Ledger ws w' B acc clo (if r then ps ++ [p] else ps) := h ▸ takes_walk ws w B acc clo ps p hL hps
theorem takes_frame' (ws w : World) (B : Nat) (acc clo : Int) (ps : List S27) (p : S27) (r : Bool) (h : nextB acc ps p = r) (hL : Ledger ws w B acc clo ps) (hps : ps.length ≤ 200) :
    Calls Try.prog 38 #[.pointer (some ⟨B, 0, none⟩), .agg #[.int .i64 p.f0, .int .i64 p.f1, .int .i64 p.f2, .int .i64 p.f3, .int .i64 p.f4, .int .i64 p.f5, .int .i64 p.f6]] w fun e w' => e = .returned (.bool r) ∧ Ledger ws w' B acc clo (if r then ps ++ [p] else ps) ∧ Fram w w' B := h ▸ takes_frame ws w B acc clo ps p hL hps
theorem Ledger.lower {w ws w' : World} {B : Nat} {acc clo : Int} {ps : List S27} (h : Ledger ws w' B acc clo ps) (hb : Below w.heap.size w ws) : Ledger w w' B acc clo ps := by
  obtain ⟨h1, h2, v, h3, h4, h5, h6⟩ := h
  exact ⟨Below.trans hb (h1.mono hb.size), Nat.le_trans hb.size h2, v, h3, Kd.R_lower h4 hb.size, h5, h6⟩
theorem backs_nil : backs [] = List.replicate 200 false := by decide +kernel
theorem zero_led (W : World) : Sem.run Try.prog (zeroValue 58) W = .ok (.agg (.int .i64 0 :: .slice none 0 0 :: .int .i64 0 :: (List.replicate 200 false).map Value.bool).toArray) W := by
  kernel_rfl
/-- what open leaves -/
def OpenPost (acc clo : Int) (ps : List S27) (w : World) (e : Ending) (w' : World) : Prop := if okAll acc [] ps = true then ∃ B, e = .returned (.tuple #[.pointer (some ⟨B, 0, none⟩), .bool (inB acc clo)]) ∧ Ledger w w' B acc clo ps else e = .returned (.tuple #[.pointer none, .bool false]) ∧ Below w.heap.size w w'
set_option maxRecDepth 100000 in
set_option maxHeartbeats 2000000 in
theorem open_walk (acc clo : Int) (A : Option Addr) (c : Nat) (ps : List S27) (w : World) (hr : Kd.C k27 w A ps.length ps) (hn : ps.length ≤ 1000000) :
    Calls Try.prog 28 #[.agg #[.int .i64 acc, .slice A ps.length c, .int .i64 clo]] w fun e w' => OpenPost acc clo ps w e w' := by
  obtain ⟨n, hnl⟩ : ∃ n, ps.length = n := ⟨_, rfl⟩
  rw [hnl] at hr hn
  rw [hnl]
  have HR := Lib.hid hr
  have HN := Lib.hid hnl
  clear hr hnl
  obtain ⟨Z, hZ⟩ : ∃ Z, (List.replicate 200 false).map Value.bool = Z := ⟨_, rfl⟩
  have hZl : Z.length = 200 := by rw [← hZ]; simp
  have hz := zero_led
  rw [hZ] at hz
  have HZ := Lib.hid hZ
  clear hZ
  go_enter Try.func28, Try.ntmps28
  go_wp2
  obtain ⟨B, hBd⟩ : ∃ B, w.heap.size + 1 = B := ⟨_, rfl⟩
  have hsz : (w.alloc (.cells #[.int .i64 acc, .slice A n c, .int .i64 clo] 24)).heap.size = B := by rw [← hBd]; simp
  have hbw : Below w.heap.size w (w.alloc (.cells #[.int .i64 acc, .slice A n c, .int .i64 clo] 24)) := (Below.refl _ _).alloc (Nat.le_refl _) _
  have hcell (j : Nat) (v : Value) (h : (#[Value.int .i64 acc, .slice A n c, .int .i64 clo])[j]? = some v) : (w.alloc (.cells #[.int .i64 acc, .slice A n c, .int .i64 clo] 24)).cell? ⟨w.heap.size, j, none⟩ = some v := c_new _ _ _ _ _ _ h rfl
  have b0 := hcell 0 _ rfl
  have b2 := hcell 2 _ rfl
  clear hcell
  rw [hBd]
  generalize w.alloc (.cells #[.int .i64 acc, .slice A n c, .int .i64 clo] 24) = ws at *
  have hL0 : Ledger ws (ws.alloc (.cells (Value.int .i64 acc :: .slice none 0 0 :: .int .i64 clo :: Z).toArray 58)) B acc clo (ps.take 0) := by
    refine ⟨(Below.refl _ _).alloc (Nat.le_refl _) _, by rw [hsz]; omega, .slice none 0 0, ?_, Kd.R_nil _ _ _ _ _, (fun e => by cases e), fun _ => rfl⟩
    have h := Blk.new ws 58 (Value.int .i64 acc :: .slice none 0 0 :: .int .i64 clo :: Z)
    rw [hsz] at h
    unfold Led ledCells
    rw [show backs (ps.take 0) = List.replicate 200 false from backs_nil, HZ.out]
    exact h
  generalize ws.alloc (.cells (Value.int .i64 acc :: .slice none 0 0 :: .int .i64 clo :: Z).toArray 58) = W2 at *
  clear hz hZl HZ
  have HBW := Lib.hid hbw
  have HB0 := Lib.hid b0
  have HB2 := Lib.hid b2
  clear hbw b0 b2 hsz hBd
  go_loopw [17] (fun i wr => ∃ k : Nat, k ≤ n ∧ k ≤ 200 ∧ i = .int .i64 (k : Int) ∧ Hid (Ledger ws wr B acc clo (ps.take k)) ∧ Hid (okAll acc [] ps = okAll acc (ps.take k) (ps.drop k))) (fun i wr => n - (intOf i).toNat)
  case atStart => exact ⟨0, by omega, by omega, rfl, Lib.hid hL0, Lib.hid (by simp)⟩
  case round =>
    obtain ⟨k, hk, hk2, rfl, HL, HOK⟩ := hrel
    by_cases hlt : k < n
    · have hki : (k : Int) < (n : Int) := by omega
      have hbr : Below w.heap.size w wr := Below.trans HBW.out (HL.out.1.mono HBW.out.size)
      obtain ⟨ad, rfl, x0, x1, x2, x3, x4, x5, x6⟩ := at_T27 (Kd.C_below HR.out hbr) (k : Int) (by omega) hki
      rw [Int.toNat_natCast] at x0 x1 x2 x3 x4 x5 x6
      have HP := Lib.hid (rfl : rd_T27 ps (k : Int) = rd_T27 ps (k : Int))
      generalize hp : rd_T27 ps (k : Int) = p at *
      clear HP
      have hlen : (ps.take k).length ≤ 200 := by rw [List.length_take]; omega
      have hst := okAll_step acc ps k (by rw [HN.out]; exact hlt)
      rw [hp] at hst
      cases hnx : nextB acc (ps.take k) p with
      | true =>
        have HNX := Lib.hid hnx
        have HLEN := Lib.hid hlen
        have HST := Lib.hid hst
        clear hnx hlen hst
        go_wp2_with (first | (go_at_call 38; refine (takes_walk' ws _ B acc clo (ps.take k) p true HNX.out (HL.out.below ((Below.refl _ _).alloc (Nat.le_refl _) _)) HLEN.out).mono ?_; rintro e w3 ⟨rfl, hL3⟩) | fail)
        go_roundw
        case rel =>
          have ht : ps.take k ++ [p] = ps.take (k + 1) := by
            have hkl : k < ps.length := by rw [HN.out]; exact hlt
            rw [List.take_add_one, List.getElem?_eq_getElem hkl, ← hp]
            unfold rd_T27
            rw [Int.toNat_natCast, List.getD_eq_getElem?_getD, List.getElem?_eq_getElem hkl]
            rfl
          have hl2 := next_len HNX.out
          rw [List.length_take, HN.out] at hl2
          refine ⟨k + 1, by omega, by omega, by go_num, Lib.hid ?_, Lib.hid ?_⟩
          · rw [← ht]; exact hL3
          · rw [HOK.out, HST.out, HNX.out, Bool.true_and]
        case measure => simp [intOf]; omega
      | false =>
        have HNX := Lib.hid hnx
        have HLEN := Lib.hid hlen
        have HST := Lib.hid hst
        clear hnx hlen hst
        go_wp2_with (first | (go_at_call 38; refine (takes_walk' ws _ B acc clo (ps.take k) p false HNX.out (HL.out.below ((Below.refl _ _).alloc (Nat.le_refl _) _)) HLEN.out).mono ?_; rintro e w3 ⟨rfl, hL3⟩) | fail)
        go_ret2
        unfold OpenPost
        rw [if_neg (by rw [HOK.out, HST.out, HNX.out]; simp)]
        exact ⟨rfl, Below.trans HBW.out (hL3.1.mono HBW.out.size)⟩
    · obtain rfl : k = n := by omega
      have hfull : ps.take k = ps := List.take_of_length_le (by rw [HN.out]; exact Nat.le_refl _)
      have hok : okAll acc [] ps = true := by
        rw [HOK.out, List.drop_of_length_le (by rw [HN.out]; exact Nat.le_refl _)]; rfl
      have hL := HL.out
      rw [hfull] at hL
      have HLL := Lib.hid hL
      have HFIN := Lib.hid hok
      have b0 := keepB hL.1 HB0.out
      have b2 := keepB hL.1 HB2.out
      clear hL hok hfull
      cases ha : decide (2 ≤ acc ∧ acc ≤ 16) with
      | false =>
        have HA := Lib.hid ha
        clear ha
        go_wp2_with (first | (go_at_call 32; refine (isIn_walk' acc 2 16 false HA.out _).mono ?_; rintro e w4 ⟨rfl, hd4⟩) | fail)
        go_ret2
        unfold OpenPost
        rw [if_pos HFIN.out]
        refine ⟨B, ?_, (HLL.out.below hd4.below).lower HBW.out⟩
        rw [show inB acc clo = false by unfold inB; rw [decide_eq_false]; exact fun h => (of_decide_eq_false HA.out) h.1]
        rfl
      | true =>
        cases hcl : decide (0 ≤ clo ∧ clo ≤ 12) with
        | false =>
          have HA := Lib.hid ha
          have HC := Lib.hid hcl
          clear ha hcl
          go_wp2_with (first | (go_at_call 32; (with_reducible refine (isIn_walk' acc 2 16 true HA.out _).mono ?_); rintro e w4 ⟨rfl, hd4⟩; have b2 := keepB hd4.below b2) | (go_at_call 32; (with_reducible refine (isIn_walk' clo 0 12 false HC.out _).mono ?_); rintro e w5 ⟨rfl, hd5⟩) | fail)
          go_ret2
          unfold OpenPost
          rw [if_pos HFIN.out]
          refine ⟨B, ?_, ((HLL.out.below hd4.below).below hd5.below).lower HBW.out⟩
          rw [show inB acc clo = false by unfold inB; rw [decide_eq_false]; exact fun h => (of_decide_eq_false HC.out) h.2]
          rfl
        | true =>
          have HA := Lib.hid ha
          have HC := Lib.hid hcl
          clear ha hcl
          go_wp2_with (first | (go_at_call 32; (with_reducible refine (isIn_walk' acc 2 16 true HA.out _).mono ?_); rintro e w4 ⟨rfl, hd4⟩; have b2 := keepB hd4.below b2) | (go_at_call 32; (with_reducible refine (isIn_walk' clo 0 12 true HC.out _).mono ?_); rintro e w5 ⟨rfl, hd5⟩) | fail)
          go_ret2
          unfold OpenPost
          rw [if_pos HFIN.out]
          refine ⟨B, ?_, ((HLL.out.below hd4.below).below hd5.below).lower HBW.out⟩
          rw [show inB acc clo = true by unfold inB; rw [decide_eq_true]; exact ⟨of_decide_eq_true HA.out, of_decide_eq_true HC.out⟩]
          rfl
end Go.Proofs.Ytooogaogbffjfaa.Ext
end
section
/-
  (*ledger).post, Valid, Post, Close, Dispute.
-/
set_option linter.unusedVariables false
set_option linter.unusedSimpArgs false
namespace Go.Proofs.Ytooogaogbffjfaa.Ext
open Go.RowKit Go.Proofs.YtooogaogbffjfaaW.PrintWords Go.Proofs.YtooogaogbffjfaaW.PrintLast Go.Proofs.YtooogaogbffjfaaW.PrintMore Go.Proofs.Ytooogaogbffjfaa.PK Go.Proofs.Ytooogaogbffjfaa.Bk
attribute [local go_sem] Oper.semAt_some
set_option maxRecDepth 100000 in
set_option maxHeartbeats 2000000 in
theorem post_early (ws w : World) (B : Nat) (acc clo : Int) (ps : List S27) (p : S27) (hL : Ledger ws w B acc clo ps) (hps : ps.length ≤ 200) (hc : 0 ≤ clo ∧ clo ≤ 12) (he : ¬ 30 * clo ≤ p.f1) :
    Calls Try.prog 29 #[.pointer (some ⟨B, 0, none⟩), pv p] w fun e w' => e = .returned (.bool false) ∧ Ledger ws w' B acc clo ps ∧ Fram w w' B := by
  obtain ⟨m, hm⟩ : ∃ m, 30 * clo = m := ⟨_, rfl⟩
  have hw : IntKind.i64.wrap (30 * clo) = m := by rw [IntWalk.i64_in _ (by omega)]; exact hm
  have hd : decide (m ≤ p.f1) = false := decide_eq_false (by omega)
  have HLL := Lib.hid hL
  obtain ⟨_, _, v, hB, _⟩ := hL
  have c2 : w.cell? ⟨B, 2, none⟩ = some (.int .i64 clo) := hB.cell rfl
  have HPS := Lib.hid hps
  have HM := Lib.hid hm
  have e0 := box_cells w p 0 _ rfl 27
  have e1 := box_cells w p 1 _ rfl 27
  have e2 := box_cells w p 2 _ rfl 27
  have e3 := box_cells w p 3 _ rfl 27
  have e4 := box_cells w p 4 _ rfl 27
  have e5 := box_cells w p 5 _ rfl 27
  have e6 := box_cells w p 6 _ rfl 27
  have c2' := c_old (o := .cells (pcells p).toArray 27) c2
  unfold pv
  unfold pcells at c2' e0 e1 e2 e3 e4 e5 e6
  have HC1 : Hid (w.cell? ⟨B, 1, none⟩ = some v) := Lib.hid (hB.cell rfl)
  clear c2 hB hps hm
  go_enter Try.func29, Try.ntmps29
  go_wp2
  generalize hw1 : w.alloc (.cells [Value.int .i64 p.f0, .int .i64 p.f1, .int .i64 p.f2, .int .i64 p.f3, .int .i64 p.f4, .int .i64 p.f5, .int .i64 p.f6].toArray 27) = w1 at *
  have hbw : Below w.heap.size w w1.drew := below_drew1 (by rw [← hw1]; exact (Below.refl _ _).alloc (Nat.le_refl _) _)
  refine start_ (n := 15) (S := fun w' => w'.cell? ⟨B, 2, none⟩ = some (.int .i64 clo) ∧ w'.cell? ⟨w.heap.size, 0, none⟩ = some (.int .i64 p.f0) ∧ w'.cell? ⟨w.heap.size, 1, none⟩ = some (.int .i64 p.f1) ∧ w'.cell? ⟨w.heap.size, 2, none⟩ = some (.int .i64 p.f2) ∧ w'.cell? ⟨w.heap.size, 3, none⟩ = some (.int .i64 p.f3) ∧ w'.cell? ⟨w.heap.size, 4, none⟩ = some (.int .i64 p.f4) ∧ w'.cell? ⟨w.heap.size, 5, none⟩ = some (.int .i64 p.f5) ∧ w'.cell? ⟨w.heap.size, 6, none⟩ = some (.int .i64 p.f6)) (ds := []) #[false, false, false, false, false, false, false, false, false, false, false, false, false, false, false] (by kernel_rfl) rfl rfl ⟨c2', e0, e1, e2, e3, e4, e5, e6⟩ (fun hHeld => ?_)
  generalize w1.drew = wd at *
  refine pure_ (i := 0) (N := some 5) (v := ?_) (a' := ?_) #[true, false, false, false, false, false, false, false, false, false, false, false, false, false, false] rfl rfl (by kernel_rfl) (fun _ _ _ h => h) (Or.inl ⟨by rfl, ?_⟩) ?_ ?_
  rotate_left
  · intro w'
    go_simp
    with_reducible rfl
  rotate_left
  · simp only [Act.put, List.setIfInBounds_toArray, List.set_cons_zero, List.set_cons_succ, i64_w, i32_w]
    rfl
  refine pure_ (i := 2) (N := some 7) (v := ?_) (a' := ?_) #[true, false, true, false, false, false, false, false, false, false, false, false, false, false, false] rfl rfl (by kernel_rfl) (fun _ _ _ h => h) (Or.inl ⟨by rfl, ?_⟩) ?_ ?_
  rotate_left
  · intro w'
    go_simp
    with_reducible rfl
  rotate_left
  · simp only [Act.put, List.setIfInBounds_toArray, List.set_cons_zero, List.set_cons_succ, i64_w, i32_w]
    rfl
  refine pure_ (i := 3) (N := some 8) (v := ?_) (a' := ?_) #[true, false, true, true, false, false, false, false, false, false, false, false, false, false, false] rfl rfl (by kernel_rfl) (fun _ _ _ h => h) (Or.inl ⟨by rfl, ?_⟩) ?_ ?_
  rotate_left
  · intro w'
    go_simp
    with_reducible rfl
  rotate_left
  · simp only [Act.put, List.setIfInBounds_toArray, List.set_cons_zero, List.set_cons_succ, i64_w, i32_w]
    rfl
  refine pure_ (i := 4) (N := some 9) (v := ?_) (a' := ?_) #[true, false, true, true, true, false, false, false, false, false, false, false, false, false, false] rfl rfl (by kernel_rfl) (fun _ _ _ h => h) (Or.inl ⟨by rfl, ?_⟩) ?_ ?_
  rotate_left
  · intro w'
    go_simp
    with_reducible rfl
  rotate_left
  · simp only [Act.put, List.setIfInBounds_toArray, List.set_cons_zero, List.set_cons_succ, i64_w, i32_w]
    rfl
  refine pure_ (i := 5) (N := some 10) (v := ?_) (a' := ?_) #[true, false, true, true, true, true, false, false, false, false, false, false, false, false, false] rfl rfl (by kernel_rfl) (fun _ _ _ h => h) (Or.inl ⟨by rfl, ?_⟩) ?_ ?_
  rotate_left
  · intro w'
    go_simp
    with_reducible rfl
  rotate_left
  · simp only [Act.put, List.setIfInBounds_toArray, List.set_cons_zero, List.set_cons_succ, i64_w, i32_w]
    rfl
  refine take_ (i := 1) (N := some 6) (v := ?_) (a' := ?_) #[true, true, true, true, true, true, false, false, false, false, false, false, false, false, false] rfl rfl (by kernel_rfl) (fun _ _ _ h => h) (Or.inl ⟨by rfl, ?_⟩) hHeld ?_ ?_
  rotate_left
  · rintro w' ⟨s0, s1, s2, s3, s4, s5, s6, s7⟩
    go_simp
    with_reducible rfl
  rotate_left
  · simp only [Act.put, List.setIfInBounds_toArray, List.set_cons_zero, List.set_cons_succ, i64_w, i32_w]
    rfl
  refine take_ (i := 6) (N := some 11) (v := ?_) (a' := ?_) #[true, true, true, true, true, true, true, false, false, false, false, false, false, false, false] rfl rfl (by kernel_rfl) (fun _ _ _ h => h) (Or.inl ⟨by rfl, ?_⟩) hHeld ?_ ?_
  rotate_left
  · rintro w' ⟨s0, s1, s2, s3, s4, s5, s6, s7⟩
    go_simp
    with_reducible rfl
  rotate_left
  · simp only [Act.put, List.setIfInBounds_toArray, List.set_cons_zero, List.set_cons_succ, i64_w, i32_w]
    rfl
  refine pure_ (i := 7) (N := some 12) (v := ?_) (a' := ?_) #[true, true, true, true, true, true, true, true, false, false, false, false, false, false, false] rfl rfl (by kernel_rfl) (fun _ _ _ h => h) (Or.inl ⟨by rfl, ?_⟩) ?_ ?_
  rotate_left
  · intro w'
    go_simp
    with_reducible rfl
  rotate_left
  · simp only [Act.put, List.setIfInBounds_toArray, List.set_cons_zero, List.set_cons_succ, i64_w, i32_w]
    rfl
  refine pure_ (i := 8) (N := some 13) (v := ?_) (a' := ?_) #[true, true, true, true, true, true, true, true, true, false, false, false, false, false, false] rfl rfl (by kernel_rfl) (fun _ _ _ h => h) (Or.inl ⟨by rfl, ?_⟩) ?_ ?_
  rotate_left
  · intro w'
    go_simp
    with_reducible rfl
  rotate_left
  · simp only [Act.put, List.setIfInBounds_toArray, List.set_cons_zero, List.set_cons_succ, i64_w, i32_w]
    rfl
  refine pure_ (i := 9) (N := some 14) (v := ?_) (a' := ?_) #[true, true, true, true, true, true, true, true, true, true, false, false, false, false, false] rfl rfl (by kernel_rfl) (fun _ _ _ h => h) (Or.inl ⟨by rfl, ?_⟩) ?_ ?_
  rotate_left
  · intro w'
    go_simp
    with_reducible rfl
  rotate_left
  · simp only [Act.put, List.setIfInBounds_toArray, List.set_cons_zero, List.set_cons_succ, i64_w, i32_w]
    rfl
  refine pure_ (i := 10) (N := some 15) (v := undef) (a' := ?_) #[true, true, true, true, true, true, true, true, true, true, true, false, false, false, false] rfl rfl (by kernel_rfl) (fun _ _ _ h => h) (Or.inr ⟨by rfl, rfl⟩) ?_ ?_
  rotate_left
  · simp only [Act.put, List.setIfInBounds_toArray, List.set_cons_zero, List.set_cons_succ, i64_w, i32_w]
    rfl
  refine pure_ (i := 11) (N := some 16) (v := undef) (a' := ?_) #[true, true, true, true, true, true, true, true, true, true, true, true, false, false, false] rfl rfl (by kernel_rfl) (fun _ _ _ h => h) (Or.inr ⟨by rfl, rfl⟩) ?_ ?_
  rotate_left
  · simp only [Act.put, List.setIfInBounds_toArray, List.set_cons_zero, List.set_cons_succ, i64_w, i32_w]
    rfl
  refine pure_ (i := 12) (N := some 17) (v := undef) (a' := ?_) #[true, true, true, true, true, true, true, true, true, true, true, true, true, false, false] rfl rfl (by kernel_rfl) (fun _ _ _ h => h) (Or.inr ⟨by rfl, rfl⟩) ?_ ?_
  rotate_left
  · simp only [Act.put, List.setIfInBounds_toArray, List.set_cons_zero, List.set_cons_succ, i64_w, i32_w]
    rfl
  refine pure_ (i := 13) (N := some 18) (v := ?_) (a' := ?_) #[true, true, true, true, true, true, true, true, true, true, true, true, true, true, false] rfl rfl (by kernel_rfl) (fun _ _ _ h => h) (Or.inl ⟨by rfl, ?_⟩) ?_ ?_
  rotate_left
  · intro w'
    go_simp
    with_reducible rfl
  rotate_left
  · simp only [Act.put, List.setIfInBounds_toArray, List.set_cons_zero, List.set_cons_succ, i64_w, i32_w]
    rfl
  refine pure_ (i := 14) (N := some 4) (v := ?_) (a' := ?_) #[true, true, true, true, true, true, true, true, true, true, true, true, true, true, true] rfl rfl (by kernel_rfl) (fun _ _ _ h => h) (Or.inl ⟨by rfl, ?_⟩) ?_ ?_
  rotate_left
  · intro w'
    go_simp
    with_reducible rfl
  rotate_left
  · simp only [Act.put, List.setIfInBounds_toArray, List.set_cons_zero, List.set_cons_succ, i64_w, i32_w]
    rfl
  refine done_ (by kernel_rfl) ?_
  go_wp2
  go_ret
  exact ⟨rfl, HLL.out.below hbw, Fram.stay hbw⟩
set_option maxRecDepth 100000 in
set_option maxHeartbeats 2000000 in
theorem post_late (ws w : World) (B : Nat) (acc clo : Int) (ps : List S27) (p : S27) (hL : Ledger ws w B acc clo ps) (hps : ps.length ≤ 200) (hc : 0 ≤ clo ∧ clo ≤ 12) (he : 30 * clo ≤ p.f1) (r : Bool) (hr : nextB acc ps p = r) (qs : List S27) (hqs : (if r then ps ++ [p] else ps) = qs) :
    Calls Try.prog 29 #[.pointer (some ⟨B, 0, none⟩), pv p] w fun e w' => e = .returned (.bool r) ∧ Ledger ws w' B acc clo qs ∧ Fram w w' B := by
  obtain ⟨m, hm⟩ : ∃ m, 30 * clo = m := ⟨_, rfl⟩
  have hw : IntKind.i64.wrap (30 * clo) = m := by rw [IntWalk.i64_in _ (by omega)]; exact hm
  have hd : decide (m ≤ p.f1) = true := decide_eq_true (by omega)
  have HR := Lib.hid hr
  have HQS := Lib.hid hqs
  clear hr hqs
  have HLL := Lib.hid hL
  obtain ⟨_, _, v, hB, _⟩ := hL
  have c2 : w.cell? ⟨B, 2, none⟩ = some (.int .i64 clo) := hB.cell rfl
  have HPS := Lib.hid hps
  have HM := Lib.hid hm
  have e0 := box_cells w p 0 _ rfl 27
  have e1 := box_cells w p 1 _ rfl 27
  have e2 := box_cells w p 2 _ rfl 27
  have e3 := box_cells w p 3 _ rfl 27
  have e4 := box_cells w p 4 _ rfl 27
  have e5 := box_cells w p 5 _ rfl 27
  have e6 := box_cells w p 6 _ rfl 27
  have c2' := c_old (o := .cells (pcells p).toArray 27) c2
  unfold pv
  unfold pcells at c2' e0 e1 e2 e3 e4 e5 e6
  have HC1 : Hid (w.cell? ⟨B, 1, none⟩ = some v) := Lib.hid (hB.cell rfl)
  clear c2 hB hps hm
  go_enter Try.func29, Try.ntmps29
  go_wp2
  generalize hw1 : w.alloc (.cells [Value.int .i64 p.f0, .int .i64 p.f1, .int .i64 p.f2, .int .i64 p.f3, .int .i64 p.f4, .int .i64 p.f5, .int .i64 p.f6].toArray 27) = w1 at *
  have hbw : Below w.heap.size w w1.drew := below_drew1 (by rw [← hw1]; exact (Below.refl _ _).alloc (Nat.le_refl _) _)
  refine start_ (n := 15) (S := fun w' => w'.cell? ⟨B, 2, none⟩ = some (.int .i64 clo) ∧ w'.cell? ⟨w.heap.size, 0, none⟩ = some (.int .i64 p.f0) ∧ w'.cell? ⟨w.heap.size, 1, none⟩ = some (.int .i64 p.f1) ∧ w'.cell? ⟨w.heap.size, 2, none⟩ = some (.int .i64 p.f2) ∧ w'.cell? ⟨w.heap.size, 3, none⟩ = some (.int .i64 p.f3) ∧ w'.cell? ⟨w.heap.size, 4, none⟩ = some (.int .i64 p.f4) ∧ w'.cell? ⟨w.heap.size, 5, none⟩ = some (.int .i64 p.f5) ∧ w'.cell? ⟨w.heap.size, 6, none⟩ = some (.int .i64 p.f6)) (ds := [12]) #[false, false, false, false, false, false, false, false, false, false, false, false, false, false, false] (by kernel_rfl) rfl rfl ⟨c2', e0, e1, e2, e3, e4, e5, e6⟩ (fun hHeld => ?_)
  generalize w1.drew = wd at *
  refine pure_ (i := 0) (N := some 5) (v := ?_) (a' := ?_) #[true, false, false, false, false, false, false, false, false, false, false, false, false, false, false] rfl rfl (by kernel_rfl) (fun _ _ _ h => h) (Or.inl ⟨by rfl, ?_⟩) ?_ ?_
  rotate_left
  · intro w'
    go_simp
    with_reducible rfl
  rotate_left
  · simp only [Act.put, List.setIfInBounds_toArray, List.set_cons_zero, List.set_cons_succ, i64_w, i32_w]
    rfl
  refine pure_ (i := 2) (N := some 7) (v := ?_) (a' := ?_) #[true, false, true, false, false, false, false, false, false, false, false, false, false, false, false] rfl rfl (by kernel_rfl) (fun _ _ _ h => h) (Or.inl ⟨by rfl, ?_⟩) ?_ ?_
  rotate_left
  · intro w'
    go_simp
    with_reducible rfl
  rotate_left
  · simp only [Act.put, List.setIfInBounds_toArray, List.set_cons_zero, List.set_cons_succ, i64_w, i32_w]
    rfl
  refine pure_ (i := 3) (N := some 8) (v := ?_) (a' := ?_) #[true, false, true, true, false, false, false, false, false, false, false, false, false, false, false] rfl rfl (by kernel_rfl) (fun _ _ _ h => h) (Or.inl ⟨by rfl, ?_⟩) ?_ ?_
  rotate_left
  · intro w'
    go_simp
    with_reducible rfl
  rotate_left
  · simp only [Act.put, List.setIfInBounds_toArray, List.set_cons_zero, List.set_cons_succ, i64_w, i32_w]
    rfl
  refine pure_ (i := 4) (N := some 9) (v := ?_) (a' := ?_) #[true, false, true, true, true, false, false, false, false, false, false, false, false, false, false] rfl rfl (by kernel_rfl) (fun _ _ _ h => h) (Or.inl ⟨by rfl, ?_⟩) ?_ ?_
  rotate_left
  · intro w'
    go_simp
    with_reducible rfl
  rotate_left
  · simp only [Act.put, List.setIfInBounds_toArray, List.set_cons_zero, List.set_cons_succ, i64_w, i32_w]
    rfl
  refine pure_ (i := 5) (N := some 10) (v := ?_) (a' := ?_) #[true, false, true, true, true, true, false, false, false, false, false, false, false, false, false] rfl rfl (by kernel_rfl) (fun _ _ _ h => h) (Or.inl ⟨by rfl, ?_⟩) ?_ ?_
  rotate_left
  · intro w'
    go_simp
    with_reducible rfl
  rotate_left
  · simp only [Act.put, List.setIfInBounds_toArray, List.set_cons_zero, List.set_cons_succ, i64_w, i32_w]
    rfl
  refine take_ (i := 1) (N := some 6) (v := ?_) (a' := ?_) #[true, true, true, true, true, true, false, false, false, false, false, false, false, false, false] rfl rfl (by kernel_rfl) (fun _ _ _ h => h) (Or.inl ⟨by rfl, ?_⟩) hHeld ?_ ?_
  rotate_left
  · rintro w' ⟨s0, s1, s2, s3, s4, s5, s6, s7⟩
    go_simp
    with_reducible rfl
  rotate_left
  · simp only [Act.put, List.setIfInBounds_toArray, List.set_cons_zero, List.set_cons_succ, i64_w, i32_w]
    rfl
  refine take_ (i := 6) (N := some 11) (v := ?_) (a' := ?_) #[true, true, true, true, true, true, true, false, false, false, false, false, false, false, false] rfl rfl (by kernel_rfl) (fun _ _ _ h => h) (Or.inl ⟨by rfl, ?_⟩) hHeld ?_ ?_
  rotate_left
  · rintro w' ⟨s0, s1, s2, s3, s4, s5, s6, s7⟩
    go_simp
    with_reducible rfl
  rotate_left
  · simp only [Act.put, List.setIfInBounds_toArray, List.set_cons_zero, List.set_cons_succ, i64_w, i32_w]
    rfl
  refine pure_ (i := 7) (N := some 12) (v := ?_) (a' := ?_) #[true, true, true, true, true, true, true, true, false, false, false, false, false, false, false] rfl rfl (by kernel_rfl) (fun _ _ _ h => h) (Or.inl ⟨by rfl, ?_⟩) ?_ ?_
  rotate_left
  · intro w'
    go_simp
    with_reducible rfl
  rotate_left
  · simp only [Act.put, List.setIfInBounds_toArray, List.set_cons_zero, List.set_cons_succ, i64_w, i32_w]
    rfl
  refine pure_ (i := 8) (N := some 13) (v := ?_) (a' := ?_) #[true, true, true, true, true, true, true, true, true, false, false, false, false, false, false] rfl rfl (by kernel_rfl) (fun _ _ _ h => h) (Or.inl ⟨by rfl, ?_⟩) ?_ ?_
  rotate_left
  · intro w'
    go_simp
    with_reducible rfl
  rotate_left
  · simp only [Act.put, List.setIfInBounds_toArray, List.set_cons_zero, List.set_cons_succ, i64_w, i32_w]
    rfl
  refine pure_ (i := 9) (N := some 14) (v := ?_) (a' := ?_) #[true, true, true, true, true, true, true, true, true, true, false, false, false, false, false] rfl rfl (by kernel_rfl) (fun _ _ _ h => h) (Or.inl ⟨by rfl, ?_⟩) ?_ ?_
  rotate_left
  · intro w'
    go_simp
    with_reducible rfl
  rotate_left
  · simp only [Act.put, List.setIfInBounds_toArray, List.set_cons_zero, List.set_cons_succ, i64_w, i32_w]
    rfl
  refine pure_ (i := 10) (N := some 15) (v := ?_) (a' := ?_) #[true, true, true, true, true, true, true, true, true, true, true, false, false, false, false] rfl rfl (by kernel_rfl) (fun _ _ _ h => h) (Or.inl ⟨by rfl, ?_⟩) ?_ ?_
  rotate_left
  · intro w'
    go_simp
    with_reducible rfl
  rotate_left
  · simp only [Act.put, List.setIfInBounds_toArray, List.set_cons_zero, List.set_cons_succ, i64_w, i32_w]
    rfl
  refine take_ (i := 11) (N := some 16) (v := ?_) (a' := ?_) #[true, true, true, true, true, true, true, true, true, true, true, true, false, false, false] rfl rfl (by kernel_rfl) (fun _ _ _ h => h) (Or.inl ⟨by rfl, ?_⟩) hHeld ?_ ?_
  rotate_left
  · rintro w' ⟨s0, s1, s2, s3, s4, s5, s6, s7⟩
    go_simp
    with_reducible rfl
  rotate_left
  · simp only [Act.put, List.setIfInBounds_toArray, List.set_cons_zero, List.set_cons_succ, i64_w, i32_w]
    rfl
  refine last_ (i := 12) (N := some 17) #[true, true, true, true, true, true, true, true, true, true, true, true, true, false, false] rfl rfl (by kernel_rfl) (by decide) (fun K hK => ?_)
  refine goes_ Try.func38 (by kernel_rfl) rfl #[.pointer (some ⟨B, 0, none⟩), .agg #[.int .i64 p.f0, .int .i64 p.f1, .int .i64 p.f2, .int .i64 p.f3, .int .i64 p.f4, .int .i64 p.f5, .int .i64 p.f6]] (by rfl) rfl rfl (by simp only [List.map_toArray, List.map_cons, List.map_nil]; rfl) ?_
  with_reducible refine (takes_frame' ws _ B acc clo ps p r HR.out (HLL.out.below hbw) HPS.out).mono ?_
  rintro e w2 ⟨rfl, hL2, hFr2⟩
  refine ⟨_, rfl, ?_⟩
  rw [HQS.out] at hL2
  refine hK.out _ _ ?_
  clear hK K
  refine norm_ (a' := ?_) ?_ ?_
  rotate_left
  · show Act.put _ (some 17) _ = _
    simp only [Act.put, List.setIfInBounds_toArray, List.set_cons_zero, List.set_cons_succ, i64_w, i32_w]
    rfl
  refine pure_ (i := 13) (N := some 18) (v := ?_) (a' := ?_) #[true, true, true, true, true, true, true, true, true, true, true, true, true, true, false] rfl rfl (by kernel_rfl) (fun _ _ _ h => h) (Or.inl ⟨by rfl, ?_⟩) ?_ ?_
  rotate_left
  · intro w'
    go_simp
    with_reducible rfl
  rotate_left
  · simp only [Act.put, List.setIfInBounds_toArray, List.set_cons_zero, List.set_cons_succ, i64_w, i32_w]
    rfl
  refine pure_ (i := 14) (N := some 4) (v := ?_) (a' := ?_) #[true, true, true, true, true, true, true, true, true, true, true, true, true, true, true] rfl rfl (by kernel_rfl) (fun _ _ _ h => h) (Or.inl ⟨by rfl, ?_⟩) ?_ ?_
  rotate_left
  · intro w'
    go_simp
    with_reducible rfl
  rotate_left
  · simp only [Act.put, List.setIfInBounds_toArray, List.set_cons_zero, List.set_cons_succ, i64_w, i32_w]
    rfl
  refine done_ (by kernel_rfl) ?_
  go_wp2
  go_ret
  exact ⟨rfl, hL2, hFr2.lift hbw HC1.out⟩
/-- whether a posting may be posted -/
def postB (acc clo : Int) (ps : List S27) (p : S27) : Bool := decide (30 * clo ≤ p.f1) && nextB acc ps p
theorem post_frame (ws w : World) (B : Nat) (acc clo : Int) (ps : List S27) (p : S27) (hL : Ledger ws w B acc clo ps) (hps : ps.length ≤ 200) (hc : 0 ≤ clo ∧ clo ≤ 12) (r : Bool) (hr : postB acc clo ps p = r) :
    Calls Try.prog 29 #[.pointer (some ⟨B, 0, none⟩), .agg #[.int .i64 p.f0, .int .i64 p.f1, .int .i64 p.f2, .int .i64 p.f3, .int .i64 p.f4, .int .i64 p.f5, .int .i64 p.f6]] w fun e w' => e = .returned (.bool r) ∧ Ledger ws w' B acc clo (if r then ps ++ [p] else ps) ∧ Fram w w' B := by
  by_cases h : 30 * clo ≤ p.f1
  · exact post_late ws w B acc clo ps p hL hps hc h r (by rw [← hr]; unfold postB; rw [decide_eq_true h, Bool.true_and]) _ rfl
  · have : r = false := by rw [← hr]; unfold postB; rw [decide_eq_false h, Bool.false_and]
    subst this
    exact (post_early ws w B acc clo ps p hL hps hc h).mono fun e w' h => h
theorem post_walk (ws w : World) (B : Nat) (acc clo : Int) (ps : List S27) (p : S27) (hL : Ledger ws w B acc clo ps) (hps : ps.length ≤ 200) (hc : 0 ≤ clo ∧ clo ≤ 12) (r : Bool) (hr : postB acc clo ps p = r) :
    Calls Try.prog 29 #[.pointer (some ⟨B, 0, none⟩), .agg #[.int .i64 p.f0, .int .i64 p.f1, .int .i64 p.f2, .int .i64 p.f3, .int .i64 p.f4, .int .i64 p.f5, .int .i64 p.f6]] w fun e w' => e = .returned (.bool r) ∧ Ledger ws w' B acc clo (if r then ps ++ [p] else ps) :=
  (post_frame ws w B acc clo ps p hL hps hc r hr).mono fun e w' h => ⟨h.1, h.2.1⟩
end Go.Proofs.Ytooogaogbffjfaa.Ext
end
