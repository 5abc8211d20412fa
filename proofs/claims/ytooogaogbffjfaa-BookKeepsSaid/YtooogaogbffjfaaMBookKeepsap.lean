import Derived.Test.YtooogaogbffjfaaMBookKeepsao
import Derived.Test.YtooogaogbffjfaaMBookKeepsam
import Derived.Test.YtooogaogbffjfaaMBookKeepsal
import Derived.Test.YtooogaogbffjfaaProg
import Derived.Below
import Derived.Deep.Draws
import Derived.Deep.AppendLies
import Derived.Maps.AppendAt
import Derived.OwnWalk
import Derived.Laws.BytesArg
import Derived.Laws.MakeOwn
import Derived.Laws.OwnMore
import Derived.Deep.OwnRows
import Derived.Tactics
import Derived.Lib.ConvBytes
import Derived.Laws.Slices
import Derived.WalkKit
import Derived.KernelRfl
import Derived.RowKit3
import Derived.Deep.LoopGhost
import Derived.Deep.QuietTactic
import Derived.BigQuiet
import Derived.WideLaws
import Derived.Deep.DeepCutAuto
import Derived.Deep.CutBlock
import Derived.Deep.RegionHeld3
import Derived.Laws.Rows
import Derived.Lib.AppendStr
import Derived.ArgAppend
import Derived.Laws.IdiomCopy
import Derived.OrdersHeld
import Derived.Laws.BitsLemmas
import Derived.RowKit
import Derived.Test.YtooogaogbffjfaaMBookKeepsaa
import Derived.Test.YtooogaogbffjfaaMBookKeepsab
import Derived.Test.YtooogaogbffjfaaMBookKeepsac
import Derived.Test.YtooogaogbffjfaaMBookKeepsad
import Derived.Test.YtooogaogbffjfaaMBookKeepsae
/-
  Texts of this claim, one behind the other: what they prove stands above each.
-/
section
/-
  The contracts of package book, in the print's form.
-/
set_option linter.unusedVariables false
set_option linter.unusedSimpArgs false
namespace Go.Proofs.Ytooogaogbffjfaa.Ext
open Go.RowKit Go.Proofs.YtooogaogbffjfaaW.PrintWords Go.Proofs.YtooogaogbffjfaaW.PrintLast Go.Proofs.YtooogaogbffjfaaW.PrintMore Go.Proofs.Ytooogaogbffjfaa.PK Go.Proofs.Ytooogaogbffjfaa.Bk
def errB : Int × List S27 × Int × Int := (0, [], 0, 240)
def postF (acc : Int) (ps : List S27) (clo : Int) (p : S27) : Int × List S27 × Int × Int × Int := if validB acc ps clo && postB acc clo ps p then (acc, ps ++ [p], clo, (ps.length : Int), 0) else (0, [], 0, 0, 240)
def dispF (acc : Int) (ps : List S27) (clo i day amount : Int) : Int × List S27 × Int × Int :=
  if validB acc ps clo && decide (0 ≤ i ∧ i < (ps.length : Int)) && decide (0 ≤ amount ∧ amount ≤ 1000000000000) && postB acc clo ps (backP (rd_T27 ps i) i.toNat day) then
    (if 0 < amount then (if postB acc clo (ps ++ [backP (rd_T27 ps i) i.toNat day]) (newP (rd_T27 ps i) day amount) then (acc, ps ++ [backP (rd_T27 ps i) i.toNat day] ++ [newP (rd_T27 ps i) day amount], clo, 0) else errB) else (acc, ps ++ [backP (rd_T27 ps i) i.toNat day], clo, 0))
  else errB
def closeF (acc : Int) (ps : List S27) (clo month : Int) : Int × List S27 × Int × Int := if validB acc ps clo && decide (month = clo) && decide (0 ≤ clo ∧ clo ≤ 11) then (acc, ps, clo + 1, 0) else errB
def stmtF (acc : Int) (ps : List S27) (clo month : Int) : List Int × Int := if validB acc ps clo && decide (0 ≤ month ∧ month ≤ 11) then ((stL month ps).take acc.toNat, 0) else ([], 240)
def owesF (acc : Int) (ps : List S27) (clo subject : Int) : List Int × Int := if validB acc ps clo && decide (0 ≤ subject ∧ subject ≤ 999) then ((owL subject ps).take acc.toNat, 0) else ([], 240)
def book_Valid.f (a0_0 : Int) (l0_1 : List S27) (a0_2 : Int) : Option Bool := if l0_1.length ≤ 1000000 then some (validB a0_0 l0_1 a0_2) else none
theorem book_Valid.calls (a0_0 : Int) (A0_1 : Option Addr) (c0_1 : Nat) (l0_1 : List S27) (a0_2 : Int) (r : Bool) (w : World) (hr0_1 : Kd.C k27 w A0_1 l0_1.length l0_1) (hc0_1 : l0_1.length ≤ c0_1) (h : book_Valid.f a0_0 l0_1 a0_2 = some r) :
    Calls Try.prog 11 #[.agg #[.int .i64 a0_0, .slice A0_1 l0_1.length c0_1, .int .i64 a0_2]] w fun e w' => e = .returned (.bool r) ∧ Below w.heap.size w w' := by
  unfold book_Valid.f at h
  split at h
  · rename_i hn
    obtain rfl := Option.some.inj h
    exact Valid_walk a0_0 a0_2 A0_1 c0_1 l0_1 w hr0_1 hn
  · cases h
def book_Post.f (a0_0 : Int) (l0_1 : List S27) (a0_2 : Int) (a1_0 a1_1 a1_2 a1_3 a1_4 a1_5 a1_6 : Int) : Option (Int × List S27 × Int × Int × Int) := if l0_1.length ≤ 1000000 then some (postF a0_0 l0_1 a0_2 ⟨a1_0, a1_1, a1_2, a1_3, a1_4, a1_5, a1_6⟩) else none
theorem book_Post.calls (a0_0 : Int) (A0_1 : Option Addr) (c0_1 : Nat) (l0_1 : List S27) (a0_2 : Int) (a1_0 a1_1 a1_2 a1_3 a1_4 a1_5 a1_6 : Int) (r1 : Int) (r2 : List S27) (r3 r4 r5 : Int) (w : World) (hr0_1 : Kd.C k27 w A0_1 l0_1.length l0_1) (hc0_1 : l0_1.length ≤ c0_1) (h : book_Post.f a0_0 l0_1 a0_2 a1_0 a1_1 a1_2 a1_3 a1_4 a1_5 a1_6 = some (r1, r2, r3, r4, r5)) :
    Calls Try.prog 9 #[.agg #[.int .i64 a0_0, .slice A0_1 l0_1.length c0_1, .int .i64 a0_2], .agg #[.int .i64 a1_0, .int .i64 a1_1, .int .i64 a1_2, .int .i64 a1_3, .int .i64 a1_4, .int .i64 a1_5, .int .i64 a1_6]] w fun e w' => ∃ v1_ : Value, e = .returned (.tuple #[.agg #[.int .i64 r1, v1_, .int .i64 r3], .int .i64 r4, .int .i64 r5]) ∧ Kd.R k27 27 w' w.heap.size (fun _ => True) v1_ r2 ∧ Below w.heap.size w w' := by
  unfold book_Post.f at h
  split at h
  · rename_i hn
    have h := Option.some.inj h
    have hno : postF a0_0 l0_1 a0_2 ⟨a1_0, a1_1, a1_2, a1_3, a1_4, a1_5, a1_6⟩ = (0, [], 0, 0, 240) → Calls Try.prog 9 #[.agg #[.int .i64 a0_0, .slice A0_1 l0_1.length c0_1, .int .i64 a0_2], pv ⟨a1_0, a1_1, a1_2, a1_3, a1_4, a1_5, a1_6⟩] w (fun e w' => e = .returned (.tuple #[.agg #[.int .i64 0, .slice none 0 0, .int .i64 0], .int .i64 0, .int .i64 240]) ∧ Below w.heap.size w w') → Calls Try.prog 9 #[.agg #[.int .i64 a0_0, .slice A0_1 l0_1.length c0_1, .int .i64 a0_2], .agg #[.int .i64 a1_0, .int .i64 a1_1, .int .i64 a1_2, .int .i64 a1_3, .int .i64 a1_4, .int .i64 a1_5, .int .i64 a1_6]] w fun e w' => ∃ v1_ : Value, e = .returned (.tuple #[.agg #[.int .i64 r1, v1_, .int .i64 r3], .int .i64 r4, .int .i64 r5]) ∧ Kd.R k27 27 w' w.heap.size (fun _ => True) v1_ r2 ∧ Below w.heap.size w w' := by
      intro e hc
      rw [e] at h
      simp only [Prod.mk.injEq] at h
      obtain ⟨rfl, rfl, rfl, rfl, rfl⟩ := h
      exact hc.mono fun e w' ⟨he, hb⟩ => ⟨_, he, Kd.R_nil _ _ _ _ _, hb⟩
    cases ho : okAll a0_0 [] l0_1 with
    | false => exact hno (by unfold postF validB; rw [ho]; rfl) (Post_no1 a0_0 a0_2 A0_1 c0_1 l0_1 _ w hr0_1 hn ho)
    | true =>
      cases hi : inB a0_0 a0_2 with
      | false => exact hno (by unfold postF validB; rw [ho, hi]; rfl) (Post_no2 a0_0 a0_2 A0_1 c0_1 l0_1 _ w hr0_1 hn ho hi)
      | true =>
        cases hp : postB a0_0 a0_2 l0_1 ⟨a1_0, a1_1, a1_2, a1_3, a1_4, a1_5, a1_6⟩ with
        | false => exact hno (by unfold postF validB; rw [ho, hi, hp]; rfl) (Post_no3 a0_0 a0_2 A0_1 c0_1 l0_1 _ w hr0_1 hn ho hi hp)
        | true =>
          unfold postF validB at h
          rw [ho, hi, hp] at h
          simp only [Bool.and_self, if_true, Prod.mk.injEq] at h
          obtain ⟨rfl, rfl, rfl, rfl, rfl⟩ := h
          exact Post_yes a0_0 a0_2 A0_1 c0_1 l0_1 _ w hr0_1 hn ho hi hp
  · cases h
def book_Dispute.f (a0_0 : Int) (l0_1 : List S27) (a0_2 : Int) (a1 a2 a3 : Int) : Option (Int × List S27 × Int × Int) := if l0_1.length ≤ 1000000 then some (dispF a0_0 l0_1 a0_2 a1 a2 a3) else none
theorem book_Dispute.calls (a0_0 : Int) (A0_1 : Option Addr) (c0_1 : Nat) (l0_1 : List S27) (a0_2 : Int) (a1 a2 a3 : Int) (r1 : Int) (r2 : List S27) (r3 r4 : Int) (w : World) (hr0_1 : Kd.C k27 w A0_1 l0_1.length l0_1) (hc0_1 : l0_1.length ≤ c0_1) (h : book_Dispute.f a0_0 l0_1 a0_2 a1 a2 a3 = some (r1, r2, r3, r4)) :
    Calls Try.prog 15 #[.agg #[.int .i64 a0_0, .slice A0_1 l0_1.length c0_1, .int .i64 a0_2], .int .i64 a1, .int .i64 a2, .int .i64 a3] w fun e w' => ∃ v1_ : Value, e = .returned (.tuple #[.agg #[.int .i64 r1, v1_, .int .i64 r3], .int .i64 r4]) ∧ Kd.R k27 27 w' w.heap.size (fun _ => True) v1_ r2 ∧ Below w.heap.size w w' := by
  unfold book_Dispute.f at h
  split at h
  · rename_i hn
    have h := Option.some.inj h
    have hno : dispF a0_0 l0_1 a0_2 a1 a2 a3 = errB → Calls Try.prog 15 #[.agg #[.int .i64 a0_0, .slice A0_1 l0_1.length c0_1, .int .i64 a0_2], .int .i64 a1, .int .i64 a2, .int .i64 a3] w (fun e w' => e = .returned (.tuple #[.agg #[.int .i64 0, .slice none 0 0, .int .i64 0], .int .i64 240]) ∧ Below w.heap.size w w') → Calls Try.prog 15 #[.agg #[.int .i64 a0_0, .slice A0_1 l0_1.length c0_1, .int .i64 a0_2], .int .i64 a1, .int .i64 a2, .int .i64 a3] w fun e w' => ∃ v1_ : Value, e = .returned (.tuple #[.agg #[.int .i64 r1, v1_, .int .i64 r3], .int .i64 r4]) ∧ Kd.R k27 27 w' w.heap.size (fun _ => True) v1_ r2 ∧ Below w.heap.size w w' := by
      intro e hc
      rw [e] at h
      simp only [errB, Prod.mk.injEq] at h
      obtain ⟨rfl, rfl, rfl, rfl⟩ := h
      exact hc.mono fun e w' ⟨he, hb⟩ => ⟨_, he, Kd.R_nil _ _ _ _ _, hb⟩
    cases ho : okAll a0_0 [] l0_1 with
    | false => exact hno (by unfold dispF validB; rw [ho]; rfl) (Dispute_no1 a0_0 a0_2 A0_1 c0_1 _ l0_1 rfl a1 a2 a3 w hr0_1 hn ho)
    | true =>
      cases hi : inB a0_0 a0_2 with
      | false => exact hno (by unfold dispF validB; rw [ho, hi]; rfl) (Dispute_no2 a0_0 a0_2 A0_1 c0_1 _ l0_1 rfl a1 a2 a3 w hr0_1 hn ho hi)
      | true =>
        have hv : validB a0_0 l0_1 a0_2 = true := by unfold validB; rw [ho, hi]; rfl
        by_cases h0 : a1 < 0
        · exact hno (by unfold dispF; rw [hv, decide_eq_false (show ¬ (0 ≤ a1 ∧ a1 < (l0_1.length : Int)) by omega)]; rfl) (Dispute_no3 a0_0 a0_2 A0_1 c0_1 _ l0_1 rfl a1 a2 a3 w hr0_1 hn ho hi (decide_eq_true h0))
        · by_cases h1 : (l0_1.length : Int) ≤ a1
          · exact hno (by unfold dispF; rw [hv, decide_eq_false (show ¬ (0 ≤ a1 ∧ a1 < (l0_1.length : Int)) by omega)]; rfl) (Dispute_no4 a0_0 a0_2 A0_1 c0_1 _ l0_1 rfl a1 a2 a3 w hr0_1 hn ho hi (decide_eq_false h0) (decide_eq_true h1))
          · have hin : decide (0 ≤ a1 ∧ a1 < (l0_1.length : Int)) = true := decide_eq_true (by omega)
            cases hc : decide (0 ≤ a3 ∧ a3 ≤ 1000000000000) with
            | false => exact hno (by unfold dispF; rw [hv, hin, hc]; rfl) (Dispute_no5 a0_0 a0_2 A0_1 c0_1 _ l0_1 rfl a1 a2 a3 w hr0_1 hn ho hi (decide_eq_false h0) (decide_eq_false h1) hc)
            | true =>
              obtain ⟨o, hio⟩ := Int.eq_ofNat_of_zero_le (show 0 ≤ a1 by omega)
              have ho2 : a1.toNat = o := by omega
              have hp : rd_T27 l0_1 (o : Int) = rd_T27 l0_1 a1 := by rw [hio]
              cases hb1 : postB a0_0 a0_2 l0_1 (backP (rd_T27 l0_1 a1) o a2) with
              | false => exact hno (by unfold dispF; rw [hv, hin, hc, ho2, hb1]; rfl) (Dispute_no6 a0_0 a0_2 A0_1 c0_1 _ l0_1 rfl a1 a2 a3 w hr0_1 hn ho hi o hio (decide_eq_false h0) (decide_eq_false h1) hc _ hp hb1)
              | true =>
                have hpos := (of_decide_eq_true hc).1
                by_cases ha : 0 < a3
                · cases hb2 : postB a0_0 a0_2 (l0_1 ++ [backP (rd_T27 l0_1 a1) o a2]) (newP (rd_T27 l0_1 a1) a2 a3) with
                  | false => exact hno (by unfold dispF; rw [hv, hin, hc, ho2, hb1, hb2]; simp [ha]) (Dispute_no7 a0_0 a0_2 A0_1 c0_1 _ l0_1 rfl a1 a2 a3 w hr0_1 hn ho hi o hio (decide_eq_false h0) (decide_eq_false h1) hc _ hp hb1 (decide_eq_true ha) hb2)
                  | true =>
                    unfold dispF at h
                    rw [hv, hin, hc, ho2, hb1, hb2] at h
                    simp only [Bool.and_self, if_true, ha, Prod.mk.injEq] at h
                    obtain ⟨rfl, rfl, rfl, rfl⟩ := h
                    exact Dispute_yes2 a0_0 a0_2 A0_1 c0_1 _ l0_1 rfl a1 a2 a3 w hr0_1 hn ho hi o hio (decide_eq_false h0) (decide_eq_false h1) hc _ hp hb1 (decide_eq_true ha) hb2
                · have ha0 : a3 = 0 := by omega
                  unfold dispF at h
                  rw [hv, hin, hc, ho2, hb1, if_neg ha] at h
                  simp only [Bool.and_self, if_true, Prod.mk.injEq] at h
                  obtain ⟨rfl, rfl, rfl, rfl⟩ := h
                  exact Dispute_yes1 a0_0 a0_2 A0_1 c0_1 _ l0_1 rfl a1 a2 a3 w hr0_1 hn ho hi o hio (decide_eq_false h0) (decide_eq_false h1) hc _ hp ha0 hb1
  · cases h
def book_Close.f (a0_0 : Int) (l0_1 : List S27) (a0_2 : Int) (a1 : Int) : Option (Int × List S27 × Int × Int) := if l0_1.length ≤ 1000000 then some (closeF a0_0 l0_1 a0_2 a1) else none
theorem book_Close.calls (a0_0 : Int) (A0_1 : Option Addr) (c0_1 : Nat) (l0_1 : List S27) (a0_2 : Int) (a1 : Int) (r1 : Int) (r2 : List S27) (r3 r4 : Int) (w : World) (hr0_1 : Kd.C k27 w A0_1 l0_1.length l0_1) (hc0_1 : l0_1.length ≤ c0_1) (h : book_Close.f a0_0 l0_1 a0_2 a1 = some (r1, r2, r3, r4)) :
    Calls Try.prog 17 #[.agg #[.int .i64 a0_0, .slice A0_1 l0_1.length c0_1, .int .i64 a0_2], .int .i64 a1] w fun e w' => ∃ v1_ : Value, e = .returned (.tuple #[.agg #[.int .i64 r1, v1_, .int .i64 r3], .int .i64 r4]) ∧ Kd.R k27 27 w' w.heap.size (fun _ => True) v1_ r2 ∧ Below w.heap.size w w' := by
  unfold book_Close.f at h
  split at h
  · rename_i hn
    have h := Option.some.inj h
    have hno : closeF a0_0 l0_1 a0_2 a1 = errB → Calls Try.prog 17 #[.agg #[.int .i64 a0_0, .slice A0_1 l0_1.length c0_1, .int .i64 a0_2], .int .i64 a1] w (fun e w' => e = .returned (.tuple #[.agg #[.int .i64 0, .slice none 0 0, .int .i64 0], .int .i64 240]) ∧ Below w.heap.size w w') → Calls Try.prog 17 #[.agg #[.int .i64 a0_0, .slice A0_1 l0_1.length c0_1, .int .i64 a0_2], .int .i64 a1] w fun e w' => ∃ v1_ : Value, e = .returned (.tuple #[.agg #[.int .i64 r1, v1_, .int .i64 r3], .int .i64 r4]) ∧ Kd.R k27 27 w' w.heap.size (fun _ => True) v1_ r2 ∧ Below w.heap.size w w' := by
      intro e hc
      rw [e] at h
      simp only [errB, Prod.mk.injEq] at h
      obtain ⟨rfl, rfl, rfl, rfl⟩ := h
      exact hc.mono fun e w' ⟨he, hb⟩ => ⟨_, he, Kd.R_nil _ _ _ _ _, hb⟩
    cases ho : okAll a0_0 [] l0_1 with
    | false => exact hno (by unfold closeF validB; rw [ho]; rfl) (Close_no1 a0_0 a0_2 A0_1 c0_1 l0_1 a1 w hr0_1 hn ho)
    | true =>
      cases hi : inB a0_0 a0_2 with
      | false => exact hno (by unfold closeF validB; rw [ho, hi]; rfl) (Close_no2 a0_0 a0_2 A0_1 c0_1 l0_1 a1 w hr0_1 hn ho hi)
      | true =>
        have hv : validB a0_0 l0_1 a0_2 = true := by unfold validB; rw [ho, hi]; rfl
        by_cases hm : a1 = a0_2
        · cases hc : decide (0 ≤ a0_2 ∧ a0_2 ≤ 11) with
          | false => exact hno (by unfold closeF; rw [hv, hc, Bool.and_false]; rfl) (Close_no4 a0_0 a0_2 A0_1 c0_1 l0_1 a1 w hr0_1 hn ho hi hm.symm hc)
          | true =>
            unfold closeF at h
            rw [hv, hc, decide_eq_true hm] at h
            simp only [Bool.and_self, if_true, Prod.mk.injEq] at h
            obtain ⟨rfl, rfl, rfl, rfl⟩ := h
            subst hm
            exact Close_yes a0_0 a1 A0_1 c0_1 l0_1 w hr0_1 hn ho hi hc
        · exact hno (by unfold closeF; rw [hv, decide_eq_false hm]; rfl) (Close_no3 a0_0 a0_2 A0_1 c0_1 l0_1 a1 w hr0_1 hn ho hi hm)
  · cases h
def book_Statement.f (a0_0 : Int) (l0_1 : List S27) (a0_2 : Int) (a1 : Int) : Option (List Int × Int) := if l0_1.length ≤ 1000000 then some (stmtF a0_0 l0_1 a0_2 a1) else none
theorem book_Statement.calls (a0_0 : Int) (A0_1 : Option Addr) (c0_1 : Nat) (l0_1 : List S27) (a0_2 : Int) (a1 : Int) (r1 : List Int) (r2 : Int) (w : World) (hr0_1 : Kd.C k27 w A0_1 l0_1.length l0_1) (hc0_1 : l0_1.length ≤ c0_1) (h : book_Statement.f a0_0 l0_1 a0_2 a1 = some (r1, r2)) :
    Calls Try.prog 19 #[.agg #[.int .i64 a0_0, .slice A0_1 l0_1.length c0_1, .int .i64 a0_2], .int .i64 a1] w fun e w' => ∃ v0_ : Value, e = .returned (.tuple #[v0_, .int .i64 r2]) ∧ Kd.R (Kd.int .i64) 3 w' w.heap.size (fun _ => True) v0_ r1 ∧ Below w.heap.size w w' := by
  unfold book_Statement.f at h
  split at h
  · rename_i hn
    have h := Option.some.inj h
    have hno : stmtF a0_0 l0_1 a0_2 a1 = ([], 240) → Calls Try.prog 19 #[.agg #[.int .i64 a0_0, .slice A0_1 l0_1.length c0_1, .int .i64 a0_2], .int .i64 a1] w (fun e w' => e = .returned (.tuple #[.slice none 0 0, .int .i64 240]) ∧ Below w.heap.size w w') → Calls Try.prog 19 #[.agg #[.int .i64 a0_0, .slice A0_1 l0_1.length c0_1, .int .i64 a0_2], .int .i64 a1] w fun e w' => ∃ v0_ : Value, e = .returned (.tuple #[v0_, .int .i64 r2]) ∧ Kd.R (Kd.int .i64) 3 w' w.heap.size (fun _ => True) v0_ r1 ∧ Below w.heap.size w w' := by
      intro e hc
      rw [e] at h
      simp only [Prod.mk.injEq] at h
      obtain ⟨rfl, rfl⟩ := h
      exact hc.mono fun e w' ⟨he, hb⟩ => ⟨_, he, Kd.R_nil _ _ _ _ _, hb⟩
    cases ho : okAll a0_0 [] l0_1 with
    | false => exact hno (by unfold stmtF validB; rw [ho]; rfl) (Statement_no1 a0_0 a0_2 A0_1 c0_1 l0_1 a1 w hr0_1 hn ho)
    | true =>
      cases hi : inB a0_0 a0_2 with
      | false => exact hno (by unfold stmtF validB; rw [ho, hi]; rfl) (Statement_no2 a0_0 a0_2 A0_1 c0_1 l0_1 a1 w hr0_1 hn ho hi)
      | true =>
        have hv : validB a0_0 l0_1 a0_2 = true := by unfold validB; rw [ho, hi]; rfl
        cases hm : decide (0 ≤ a1 ∧ a1 ≤ 11) with
        | false => exact hno (by unfold stmtF; rw [hv, hm]; rfl) (Statement_no3 a0_0 a0_2 A0_1 c0_1 l0_1 a1 w hr0_1 hn ho hi hm)
        | true =>
          unfold stmtF at h
          rw [hv, hm] at h
          simp only [Bool.and_self, if_true, Prod.mk.injEq] at h
          obtain ⟨rfl, rfl⟩ := h
          exact Statement_yes a0_0 a0_2 A0_1 c0_1 l0_1 a1 w hr0_1 hn ho hi hm
  · cases h
def book_Owed.f (a0_0 : Int) (l0_1 : List S27) (a0_2 : Int) (a1 : Int) : Option (List Int × Int) := if l0_1.length ≤ 1000000 then some (owesF a0_0 l0_1 a0_2 a1) else none
theorem book_Owed.calls (a0_0 : Int) (A0_1 : Option Addr) (c0_1 : Nat) (l0_1 : List S27) (a0_2 : Int) (a1 : Int) (r1 : List Int) (r2 : Int) (w : World) (hr0_1 : Kd.C k27 w A0_1 l0_1.length l0_1) (hc0_1 : l0_1.length ≤ c0_1) (h : book_Owed.f a0_0 l0_1 a0_2 a1 = some (r1, r2)) :
    Calls Try.prog 24 #[.agg #[.int .i64 a0_0, .slice A0_1 l0_1.length c0_1, .int .i64 a0_2], .int .i64 a1] w fun e w' => ∃ v0_ : Value, e = .returned (.tuple #[v0_, .int .i64 r2]) ∧ Kd.R (Kd.int .i64) 3 w' w.heap.size (fun _ => True) v0_ r1 ∧ Below w.heap.size w w' := by
  unfold book_Owed.f at h
  split at h
  · rename_i hn
    have h := Option.some.inj h
    have hno : owesF a0_0 l0_1 a0_2 a1 = ([], 240) → Calls Try.prog 24 #[.agg #[.int .i64 a0_0, .slice A0_1 l0_1.length c0_1, .int .i64 a0_2], .int .i64 a1] w (fun e w' => e = .returned (.tuple #[.slice none 0 0, .int .i64 240]) ∧ Below w.heap.size w w') → Calls Try.prog 24 #[.agg #[.int .i64 a0_0, .slice A0_1 l0_1.length c0_1, .int .i64 a0_2], .int .i64 a1] w fun e w' => ∃ v0_ : Value, e = .returned (.tuple #[v0_, .int .i64 r2]) ∧ Kd.R (Kd.int .i64) 3 w' w.heap.size (fun _ => True) v0_ r1 ∧ Below w.heap.size w w' := by
      intro e hc
      rw [e] at h
      simp only [Prod.mk.injEq] at h
      obtain ⟨rfl, rfl⟩ := h
      exact hc.mono fun e w' ⟨he, hb⟩ => ⟨_, he, Kd.R_nil _ _ _ _ _, hb⟩
    cases ho : okAll a0_0 [] l0_1 with
    | false => exact hno (by unfold owesF validB; rw [ho]; rfl) (Owed_no1 a0_0 a0_2 A0_1 c0_1 l0_1 a1 w hr0_1 hn ho)
    | true =>
      cases hi : inB a0_0 a0_2 with
      | false => exact hno (by unfold owesF validB; rw [ho, hi]; rfl) (Owed_no2 a0_0 a0_2 A0_1 c0_1 l0_1 a1 w hr0_1 hn ho hi)
      | true =>
        have hv : validB a0_0 l0_1 a0_2 = true := by unfold validB; rw [ho, hi]; rfl
        cases hm : decide (0 ≤ a1 ∧ a1 ≤ 999) with
        | false => exact hno (by unfold owesF; rw [hv, hm]; rfl) (Owed_no3 a0_0 a0_2 A0_1 c0_1 l0_1 a1 w hr0_1 hn ho hi hm)
        | true =>
          unfold owesF at h
          rw [hv, hm] at h
          simp only [Bool.and_self, if_true, Prod.mk.injEq] at h
          obtain ⟨rfl, rfl⟩ := h
          exact Owed_yes a0_0 a0_2 A0_1 c0_1 l0_1 a1 w hr0_1 hn ho hi hm
  · cases h
end Go.Proofs.Ytooogaogbffjfaa.Ext
end
section
-- Written by a program of this session out of the translation's print; not trusted: checked by the kernel.
namespace Go.Proofs.Ytooogaogbffjfaa.PB
open Go.Proofs.Ytooogaogbffjfaa.Ext
open Go.RowKit Go.Proofs.YtooogaogbffjfaaW.PrintWords Go.Proofs.YtooogaogbffjfaaW.PrintLast Go.Proofs.YtooogaogbffjfaaW.PrintMore
attribute [local go_sem] max2_int min2_int max_two min_two max_three min_three max_four min_four   -- for this text's walks alone
set_option linter.unusedVariables false
set_option linter.unusedSimpArgs false
def errW : Option Int → Value
 | none => .nilIface
 | some c => .iface 0 (.int .i64 c)
theorem errW_none : errW none = .nilIface := rfl
theorem errW_some (c : Int) : errW (some c) = .iface 0 (.int .i64 c) := rfl
end Go.Proofs.Ytooogaogbffjfaa.PB
end
section
-- Written by a program of this session out of the translation's print; not trusted: checked by the kernel.
namespace Go.Proofs.Ytooogaogbffjfaa.PB
open Go.Proofs.Ytooogaogbffjfaa.Ext
open Go.RowKit Go.Proofs.YtooogaogbffjfaaW.PrintWords Go.Proofs.YtooogaogbffjfaaW.PrintLast Go.Proofs.YtooogaogbffjfaaW.PrintMore
attribute [local go_sem] max2_int min2_int max_two min_two max_three min_three max_four min_four   -- for this text's walks alone
set_option linter.unusedVariables false
set_option linter.unusedSimpArgs false
/-! ### aircheckref24_in: function 30 -/
def aircheckref24_in.f (a0 : Int) (a1 : Int) (a2 : Int) : Option (Bool) := if a0 ≥ a1 then (some (decide (a0 ≤ a2))) else (some false)
set_option maxHeartbeats 8000000 in
set_option maxRecDepth 100000 in
theorem aircheckref24_in.calls (a0 : Int) (a1 : Int) (a2 : Int) (r : Bool) (w : World) (h : aircheckref24_in.f a0 a1 a2 = some r) :
  Calls Try.prog 30 #[.int .i64 a0, .int .i64 a1, .int .i64 a2] w fun e w' => e = .returned (.bool r) ∧ Drawn0 w w' := by
 have H : (if a0 ≥ a1 then (some (decide (a0 ≤ a2))) else (some false)) = some r := h
 clear h
 by_cases c4 : a0 ≥ a1
 ·rw [if_pos c4] at H
  have c4b0 : decide (a1 ≤ a0) = true := decide_eq_true c4
  clear c4
  obtain rfl := Option.some.inj H
  go_enter Try.func30, Try.ntmps30
  go_wp2
  go_ret
  exact ⟨by first | rfl | (simp; done) | (simp [*]; done), by repeat (first | exact Drawn0.refl _ | apply Drawn0.step)⟩
 ·rw [if_neg c4] at H
  have c4b0 : decide (a1 ≤ a0) = false := decide_eq_false c4
  clear c4
  obtain rfl := Option.some.inj H
  go_enter Try.func30, Try.ntmps30
  go_wp2
  go_ret
  exact ⟨by first | rfl | (simp; done) | (simp [*]; done), by repeat (first | exact Drawn0.refl _ | apply Drawn0.step)⟩
end Go.Proofs.Ytooogaogbffjfaa.PB
end
