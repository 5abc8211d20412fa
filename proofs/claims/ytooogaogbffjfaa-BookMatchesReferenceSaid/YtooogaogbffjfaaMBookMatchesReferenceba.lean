import Derived.Test.YtooogaogbffjfaaMBookMatchesReferenceau
import Derived.Test.YtooogaogbffjfaaMBookMatchesReferenceav
import Derived.Test.YtooogaogbffjfaaMBookMatchesReferenceaw
import Derived.Test.YtooogaogbffjfaaMBookMatchesReferenceay
import Derived.Test.YtooogaogbffjfaaMBookMatchesReferenceaz
import Derived.Test.YtooogaogbffjfaaMBookMatchesReferenceap
/-
  Texts of this claim, one behind the other: what they prove stands above each.
-/
section
/-
  The reference's book is ours.
-/
set_option linter.unusedVariables false
set_option linter.unusedSimpArgs false
namespace Go.Proofs.Ytooogaogbffjfaa.Bk
open Go.RowKit Go.Proofs.YtooogaogbffjfaaW.PrintWords Go.Proofs.YtooogaogbffjfaaW.PrintLast Go.Proofs.YtooogaogbffjfaaW.PrintMore Go.Proofs.Ytooogaogbffjfaa.Ext Go.Proofs.Ytooogaogbffjfaa.PB
theorem refDispute_is (k : Nat) (acc clo : Int) (ps : List S27) (i day amount : Int) (hk : 1001 ≤ k) (hn : ps.length ≤ 999990) :
    aircheckref24_Dispute.f k acc ps clo i day amount = some (dispF acc ps clo i day amount) := by
  unfold aircheckref24_Dispute.f
  rw [if_pos hn]
theorem refClose_is (k : Nat) (acc clo : Int) (ps : List S27) (m : Int) (hk : 1000 ≤ k) (hn : ps.length ≤ 1000000) :
    aircheckref24_Close.f k acc ps clo m = some (closeF acc ps clo m) := by
  unfold aircheckref24_Close.f closeF
  rw [refValid_is k acc clo ps hk hn, Option.bind_some]
  cases hv : validB acc ps clo with
  | false => rfl
  | true =>
    rw [if_pos rfl, Bool.true_and]
    by_cases hm : m = clo
    · subst hm
      rw [if_pos rfl, in_is, Option.bind_some, decide_eq_true (show m = m from rfl), Bool.true_and]
      cases hc : decide (0 ≤ m ∧ m ≤ 11) with
      | false => rfl
      | true =>
        have := of_decide_eq_true hc
        rw [if_pos rfl, if_pos rfl, Option.bind_some, if_pos (by simp; omega), List.nil_append, show wrap64 (m + 1) = m + 1 by unfold wrap64; omega]
    · rw [if_neg hm, decide_eq_false hm]; rfl
/-- what a posting does to an account -/
def delta (p : S27) (t : Int) : Int := (if p.f3 = t then p.f4 else 0) - (if p.f2 = t then p.f4 else 0)
def tot (l : List S27) (t : Int) : Int := (l.map fun p => delta p t).sum
theorem tot_snoc (l : List S27) (p : S27) (t : Int) : tot (l ++ [p]) t = tot l t + delta p t := by simp [tot]
theorem tot_cons (l : List S27) (p : S27) (t : Int) : tot (p :: l) t = delta p t + tot l t := by simp [tot]
theorem sumB_get (l : List S27) (h : ∀ p ∈ l, Book1 p) (t : Nat) (ht : t < 16) : (sumB l).getD t 0 = tot l (t : Int) := by
  generalize hm : l.length = m
  induction m generalizing l with
  | zero =>
    have : l = [] := List.eq_nil_of_length_eq_zero hm
    subst this
    show (List.replicate 16 (0 : Int)).getD t 0 = 0
    rw [List.getD_eq_getElem?_getD, List.getElem?_replicate, if_pos ht]
    rfl
  | succ m ih =>
    rcases List.eq_nil_or_concat l with rfl | ⟨l, p, rfl⟩
    · simp at hm
    · rw [List.concat_eq_append] at *
      have hp := h p (by simp)
      have ih2 := ih l (fun q hq => h q (by simp [hq])) (by simpa using hm)
      unfold Book1 at hp
      have hl := sumB_len l
      rw [sumB_snoc, tot_snoc, ← ih2, addB, delta]
      simp only [List.getD_eq_getElem?_getD, List.getElem?_set, List.length_set, hl]
      by_cases e2 : p.f2.toNat = t
      · rw [if_pos e2, if_pos (by omega), if_pos (show p.f2 = (t : Int) by omega), if_neg (show ¬ p.f3 = (t : Int) by omega), e2]
        simp; omega
      · rw [if_neg e2, if_neg (show ¬ p.f2 = (t : Int) by omega)]
        by_cases e3 : p.f3.toNat = t
        · rw [if_pos e3, if_pos (by omega), if_pos (show p.f3 = (t : Int) by omega), e3]
          simp
        · rw [if_neg e3, if_neg (show ¬ p.f3 = (t : Int) by omega)]
          simp
theorem sumB_range (l : List S27) (h : ∀ p ∈ l, Book1 p) (n : Nat) (hn : n ≤ 16) : (sumB l).take n = (List.range n).map fun t : Nat => tot l (t : Int) := by
  have hl := sumB_len l
  apply List.ext_getElem?
  intro i
  by_cases hi : i < n
  · rw [List.getElem?_take_of_lt hi, List.getElem?_map, List.getElem?_range hi]
    have := sumB_get l h i (by omega)
    rw [List.getD_eq_getElem?_getD, List.getElem?_eq_getElem (show i < (sumB l).length by omega)] at this
    rw [List.getElem?_eq_getElem (show i < (sumB l).length by omega)]
    simpa using this
  · rw [List.getElem?_eq_none (by rw [List.length_take]; omega), List.getElem?_eq_none (by simp; omega)]
theorem delta_bound (p : S27) (t : Int) (h : Book1 p) : -1000000000000 ≤ delta p t ∧ delta p t ≤ 1000000000000 := by
  unfold Book1 at h
  unfold delta
  split <;> split <;> omega
theorem tot_bound (l : List S27) (t : Int) (h : ∀ p ∈ l, Book1 p) : -((l.length : Int) * 1000000000000) ≤ tot l t ∧ tot l t ≤ (l.length : Int) * 1000000000000 := by
  induction l with
  | nil => simp [tot]
  | cons q r ih =>
    have h1 := ih (fun p hp => h p (List.mem_cons_of_mem _ hp))
    have h2 := delta_bound q t (h q (by simp))
    rw [tot_cons]
    have e : (((q :: r).length : Nat) : Int) = (r.length : Int) + 1 := by simp
    rw [e]
    omega
/-- the postings of a month up to a place -/
theorem st_snoc (m : Int) (ps : List S27) (i : Nat) (h : i < ps.length) : thoseL (stF m) 0 (ps.take (i + 1)) = thoseL (stF m) 0 (ps.take i) ++ if (rd_T27 ps (i : Int)).f1 / 30 = m then [rd_T27 ps (i : Int)] else [] := by
  rw [take_snoc ps i h, thoseL_snoc]
  unfold stF
  congr 1
  by_cases e : (rd_T27 ps (i : Int)).f1 / 30 = m
  · rw [if_pos e, if_pos (by simpa using e)]
  · rw [if_neg e, if_neg (by simpa using e)]
theorem rd_mem (ps : List S27) (i : Nat) (h : i < ps.length) : rd_T27 ps (i : Int) ∈ ps := by
  unfold rd_T27
  rw [Int.toNat_natCast, List.getD_eq_getElem?_getD, List.getElem?_eq_getElem h]
  exact List.getElem_mem h
theorem stot_bound (m t : Int) (ps : List S27) (i : Nat) (hb : ∀ p ∈ ps, Book1 p) (hi : i ≤ ps.length) : -((i : Int) * 1000000000000) ≤ tot (thoseL (stF m) 0 (ps.take i)) t ∧ tot (thoseL (stF m) 0 (ps.take i)) t ≤ (i : Int) * 1000000000000 := by
  have h1 := tot_bound (thoseL (stF m) 0 (ps.take i)) t (fun p hp => hb p (List.mem_of_mem_take (thoseL_mem _ _ _ p hp)))
  have h2 := thoseL_len (stF m) (ps.take i) 0
  rw [List.length_take] at h2
  omega
theorem balLoop (acc clo t m : Int) (ps : List S27) (hn : ps.length ≤ 200) (hb : ∀ p ∈ ps, Book1 p) : ∀ (d i k : Nat), ps.length - i = d → i ≤ ps.length → d < k →
    aircheckref24_Balance.l0 k t m (tot (thoseL (stF m) 0 (ps.take i)) t) (i : Int) acc ps clo = some (tot (thoseL (stF m) 0 ps) t, 0) := by
  intro d
  induction d with
  | zero =>
    intro i k hd hi hk
    obtain ⟨k, rfl⟩ : ∃ q, k = q + 1 := ⟨k - 1, by omega⟩
    obtain rfl : i = ps.length := by omega
    rw [aircheckref24_Balance.l0, if_neg (by omega), List.take_length]
  | succ d ih =>
    intro i k hd hi hk
    have hlt : i < ps.length := by omega
    obtain ⟨k, rfl⟩ : ∃ q, k = q + 1 := ⟨k - 1, by omega⟩
    have hs := st_snoc m ps i hlt
    have hbd := stot_bound m t ps i hb (by omega)
    have h1 := hb _ (rd_mem ps i hlt)
    have hnext := ih (i + 1) k (by omega) (by omega) (by omega)
    rw [hs] at hnext
    rw [aircheckref24_Balance.l0, if_pos (by omega), if_pos (by omega), w1 hlt (by omega)]
    generalize rd_T27 ps (i : Int) = p at *
    obtain ⟨x, hx⟩ : ∃ x, tot (thoseL (stF m) 0 (ps.take i)) t = x := ⟨_, rfl⟩
    rw [hx] at hbd ⊢
    unfold Book1 at h1
    have hw : wrap64 (Int.tdiv p.f1 30) = p.f1 / 30 := by rw [Int.tdiv_eq_ediv_of_nonneg h1.2.2.2.2.1]; unfold wrap64; omega
    rw [hw]
    by_cases e : p.f1 / 30 = m
    · rw [if_pos e]
      rw [if_pos e, tot_snoc, hx] at hnext
      unfold delta at hnext
      by_cases e3 : p.f3 = t
      · have e2 : ¬ p.f2 = t := by omega
        rw [if_pos e3, if_neg e2]
        rw [if_pos e3, if_neg e2, Int.sub_zero] at hnext
        rw [show wrap64 (x + p.f4) = x + p.f4 by unfold wrap64; omega]
        exact hnext
      · rw [if_neg e3]
        rw [if_neg e3] at hnext
        by_cases e2 : p.f2 = t
        · rw [if_pos e2]
          rw [if_pos e2] at hnext
          rw [show wrap64 (x - p.f4) = x + (0 - p.f4) by unfold wrap64; omega]
          exact hnext
        · rw [if_neg e2]
          rw [if_neg e2, Int.sub_zero, Int.add_zero] at hnext
          exact hnext
    · rw [if_neg e]
      rw [if_neg e, List.append_nil, hx] at hnext
      exact hnext
theorem refBalance_is (k : Nat) (acc clo : Int) (ps : List S27) (t m : Int) (hk : 1001 ≤ k) (hv : validB acc ps clo = true) (ht : 0 ≤ t ∧ t < acc) :
    aircheckref24_Balance.f k acc ps clo t m = some (if 0 ≤ m ∧ m ≤ 11 then (tot (thoseL (stF m) 0 ps) t, 0) else (0, 240)) := by
  obtain ⟨k, rfl⟩ : ∃ q, k = q + 1 := ⟨k - 1, by omega⟩
  have hl := valid_len hv
  have ha := valid_acc hv
  unfold aircheckref24_Balance.f
  rw [refValid_is _ acc clo ps (by omega) (by omega), Option.bind_some, hv, if_pos rfl, in_is, Option.bind_some, show wrap64 (acc - 1) = acc - 1 by unfold wrap64; omega, decide_eq_true (show 0 ≤ t ∧ t ≤ acc - 1 by omega), if_pos rfl, in_is, Option.bind_some, aircheckref24_Balance.j0]
  by_cases h : 0 ≤ m ∧ m ≤ 11
  · rw [decide_eq_true h, if_pos h, Bool.not_true, if_neg (by decide)]
    exact balLoop acc clo t m ps hl (valid_book1 hv) ps.length 0 k (by omega) (by omega) (by omega)
  · rw [decide_eq_false h, if_neg h, Bool.not_false, if_pos rfl]
theorem refBalance_no (k : Nat) (acc clo : Int) (ps : List S27) (t m : Int) (hk : 1001 ≤ k) (hn : ps.length ≤ 1000000) (h : ¬ (validB acc ps clo = true ∧ 0 ≤ t ∧ t < acc)) :
    aircheckref24_Balance.f k acc ps clo t m = some (0, 240) := by
  obtain ⟨k, rfl⟩ : ∃ q, k = q + 1 := ⟨k - 1, by omega⟩
  unfold aircheckref24_Balance.f
  rw [refValid_is _ acc clo ps (by omega) (by omega), Option.bind_some]
  have hj : aircheckref24_Balance.j0 (k + 1) t m true acc ps clo = some (0, 240) := by rw [aircheckref24_Balance.j0, if_pos rfl]
  cases hv : validB acc ps clo with
  | false => rw [if_neg (by decide), hj]
  | true =>
    have ha := valid_acc hv
    rw [if_pos rfl, in_is, Option.bind_some, show wrap64 (acc - 1) = acc - 1 by unfold wrap64; omega, decide_eq_false (show ¬ (0 ≤ t ∧ t ≤ acc - 1) from fun h2 => h ⟨hv, by omega, by omega⟩), if_neg (by decide), hj]
theorem stLoop (acc clo m : Int) (ps : List S27) (hv : validB acc ps clo = true) (hm : 0 ≤ m ∧ m ≤ 11) : ∀ (d i k : Nat), acc.toNat - i = d → i ≤ acc.toNat → d + 1002 ≤ k →
    aircheckref24_Statement.l0 k m ((List.range i).map fun t : Nat => tot (thoseL (stF m) 0 ps) (t : Int)) (i : Int) acc ps clo = some ((List.range acc.toNat).map fun t : Nat => tot (thoseL (stF m) 0 ps) (t : Int), 0) := by
  have ha := valid_acc hv
  intro d
  induction d with
  | zero =>
    intro i k hd hi hk
    obtain ⟨k, rfl⟩ : ∃ q, k = q + 1 := ⟨k - 1, by omega⟩
    obtain rfl : i = acc.toNat := by omega
    rw [aircheckref24_Statement.l0, if_neg (by omega)]
  | succ d ih =>
    intro i k hd hi hk
    obtain ⟨k, rfl⟩ : ∃ q, k = q + 1 := ⟨k - 1, by omega⟩
    have hnext := ih (i + 1) k (by omega) (by omega) (by omega)
    rw [List.range_succ, List.map_append] at hnext
    rw [aircheckref24_Statement.l0, if_pos (by omega), refBalance_is k acc clo ps (i : Int) m (by omega) hv (by omega), if_pos hm, Option.bind_some]
    simp only
    rw [if_pos trivial, if_pos (by simp; omega), show wrap64 ((i : Int) + 1) = ((i + 1 : Nat) : Int) by unfold wrap64; omega]
    exact hnext
theorem refStatement_is (k : Nat) (acc clo : Int) (ps : List S27) (m : Int) (hk : 1100 ≤ k) (hn : ps.length ≤ 1000000) :
    aircheckref24_Statement.f k acc ps clo m = some (stmtF acc ps clo m) := by
  unfold aircheckref24_Statement.f stmtF
  rw [refValid_is k acc clo ps (by omega) hn, Option.bind_some]
  cases hv : validB acc ps clo with
  | false => rfl
  | true =>
    have ha := valid_acc hv
    rw [if_pos rfl, Bool.true_and]
    by_cases hm : 0 ≤ m ∧ m ≤ 11
    · rw [decide_eq_true hm, if_pos rfl]
      unfold stL
      rw [sumB_range _ (fun p hp => valid_book1 hv p (thoseL_mem _ _ _ p hp)) _ (by omega)]
      exact stLoop acc clo m ps hv hm acc.toNat 0 k (by omega) (by omega) (by omega)
    · rw [decide_eq_false hm]
      obtain ⟨k, rfl⟩ : ∃ q, k = q + 1 := ⟨k - 1, by omega⟩
      rw [aircheckref24_Statement.l0, if_pos (by omega), refBalance_is k acc clo ps 0 m (by omega) hv (by omega), if_neg hm, Option.bind_some]
      rfl
/-- whether a posting was taken back behind a place -/
theorem backs_of (ps : List S27) (acc clo : Int) (hv : validB acc ps clo = true) (i : Nat) (hi : i < 200) : (backs ps).getD i false = ps.any fun q => decide (q.f6 = (i : Int)) := by
  rw [List.getD_eq_getElem?_getD, backs_at ps i hi]
  simp only [Option.getD_some]
  have : ∀ l : List S27, (∀ q ∈ l, formedB acc q = true) → (l.any fun q => decide (q.f0 = 3 ∧ q.f6 = (i : Int))) = l.any fun q => decide (q.f6 = (i : Int)) := by
    intro l
    induction l with
    | nil => intro _; rfl
    | cons q r ih =>
      intro h
      rw [List.any_cons, List.any_cons, ih (fun p hp => h p (List.mem_cons_of_mem _ hp))]
      congr 1
      have hf := formed_of (h q (by simp))
      by_cases e : q.f6 = (i : Int)
      · rw [decide_eq_true e, decide_eq_true]
        rcases hf with ⟨_, h6⟩ | ⟨h3, _⟩
        · omega
        · exact ⟨h3, e⟩
      · rw [decide_eq_false e, decide_eq_false (fun h => e h.2)]
  exact this ps (valid_formed hv)
theorem okAll_from (n : Int) (ps : List S27) (h : okAll n [] ps = true) : ∀ i : Nat, i ≤ ps.length → okAll n (ps.take i) (ps.drop i) = true := by
  intro i
  induction i with
  | zero => intro _; simpa using h
  | succ i ih =>
    intro hi
    have h1 := ih (by omega)
    rw [okAll_step n ps i (by omega), Bool.and_eq_true] at h1
    exact h1.2
theorem okAll_at (n : Int) (ps : List S27) (h : okAll n [] ps = true) (i : Nat) (hi : i < ps.length) : nextB n (ps.take i) (rd_T27 ps (i : Int)) = true := by
  have h1 := okAll_from n ps h i (by omega)
  rw [okAll_step n ps i hi, Bool.and_eq_true] at h1
  exact h1.1
theorem of_back {acc clo : Int} {ps : List S27} (hv : validB acc ps clo = true) (i : Nat) (hi : i < ps.length) : (rd_T27 ps (i : Int)).f6 < (i : Int) := by
  have hv2 := hv
  unfold validB at hv2
  rw [Bool.and_eq_true] at hv2
  have h := okAll_at acc ps hv2.1 i hi
  have hl := valid_len hv
  rw [next_is acc ps i _ hl hi] at h
  have hf := valid_formed hv _ (rd_mem ps i hi)
  rw [Bool.and_eq_true, Bool.and_eq_true] at h
  rcases formed_of hf with ⟨_, h6⟩ | ⟨h3, _⟩
  · omega
  · have h := h.2.2
    rw [decide_eq_false (show ¬ (rd_T27 ps (i : Int)).f0 ≠ 3 by omega), Bool.false_or, Bool.and_eq_true] at h
    exact of_decide_eq_true h.1
theorem any_behind {acc clo : Int} {ps : List S27} (hv : validB acc ps clo = true) (i : Nat) (hi : i < ps.length) : (ps.any fun q => decide (q.f6 = (i : Int))) = (ps.drop (i + 1)).any fun q => decide (q.f6 = (i : Int)) := by
  have h0 : ((ps.take (i + 1)).any fun q => decide (q.f6 = (i : Int))) = false := by
    rw [List.any_eq_false]
    intro q hq
    obtain ⟨j, hj, he⟩ := List.mem_iff_getElem.1 hq
    rw [List.length_take] at hj
    have hb := of_back hv j (by omega)
    have hr : rd_T27 ps (j : Int) = q := by
      rw [← he]
      unfold rd_T27
      rw [Int.toNat_natCast, List.getD_eq_getElem?_getD, List.getElem?_eq_getElem (by omega), List.getElem_take]
      rfl
    rw [hr] at hb
    simp
    omega
  have h1 : (ps.any fun q => decide (q.f6 = (i : Int))) = ((ps.take (i + 1) ++ ps.drop (i + 1)).any fun q => decide (q.f6 = (i : Int))) := by rw [List.take_append_drop]
  rw [h1, List.any_append, h0, Bool.false_or]
def owTail (r : Nat) (s : Int) (out : List Int) (i : Int) (st : Bool) (acc clo : Int) (ps : List S27) (p : S27) : Option (List Int × Int) :=
  if st = true then (if 0 ≤ p.f3 then (if p.f3 < (out.length : Int) then (if 0 ≤ p.f2 then (if p.f2 < (out.length : Int) then (aircheckref24_Owed.l0 r s ((out.set p.f3.toNat (wrap64 ((rd out p.f3) + p.f4))).set p.f2.toNat (wrap64 ((rd (out.set p.f3.toNat (wrap64 ((rd out p.f3) + p.f4))) p.f2) - p.f4))) (wrap64 (i + 1)) acc ps clo) else none) else none) else none) else none) else aircheckref24_Owed.l0 r s out (wrap64 (i + 1)) acc ps clo
theorem owLoop1 (s : Int) (out : List Int) (i : Int) (acc clo : Int) (ps : List S27) (hn : ps.length ≤ 200) (p : S27) (r : Nat) : ∀ (d j : Nat) (st : Bool), ps.length - j = d → j ≤ ps.length →
    aircheckref24_Owed.l1 (d + 1 + r) s out i st (j : Int) acc ps clo p.f0 p.f1 p.f2 p.f3 p.f4 p.f5 p.f6 = owTail r s out i (st && !((ps.drop j).any fun q => decide (q.f6 = i))) acc clo ps p := by
  intro d
  induction d with
  | zero =>
    intro j st hd hj
    obtain rfl : j = ps.length := by omega
    rw [show 0 + 1 + r = r + 1 by omega, aircheckref24_Owed.l1, if_neg (by omega), List.drop_length]
    unfold owTail
    simp only [List.any_nil, Bool.not_false, Bool.and_true, Option.bind_some]
  | succ d ih =>
    intro j st hd hj
    have hlt : j < ps.length := by omega
    have hdr : ps.drop j = rd_T27 ps (j : Int) :: ps.drop (j + 1) := by
      unfold rd_T27
      rw [Int.toNat_natCast, List.getD_eq_getElem?_getD, List.getElem?_eq_getElem hlt, List.drop_eq_getElem_cons hlt]
      rfl
    rw [show d + 1 + 1 + r = (d + 1 + r) + 1 by omega, aircheckref24_Owed.l1, if_pos (by omega), hdr, List.any_cons, w1 hlt (by omega)]
    cases st with
    | true =>
      rw [if_pos rfl, if_pos (by omega), ih (j + 1) _ (by omega) (by omega)]
      congr 1
      by_cases e : (rd_T27 ps (j : Int)).f6 = i
      · simp [e]
      · simp [e]
    | false =>
      rw [if_neg (by decide), ih (j + 1) _ (by omega) (by omega)]
      simp
theorem ow_snoc (s : Int) (bk : List Bool) (ps : List S27) (i : Nat) (h : i < ps.length) : thoseL (owedF s bk) 0 (ps.take (i + 1)) = thoseL (owedF s bk) 0 (ps.take i) ++ if owedF s bk i (rd_T27 ps (i : Int)) then [rd_T27 ps (i : Int)] else [] := by
  rw [take_snoc ps i h, thoseL_snoc]
  have : 0 + (ps.take i).length = i := by rw [List.length_take]; omega
  rw [this]
theorem take_rd (l : List Int) (n : Nat) (t : Int) (h0 : 0 ≤ t) (h : t < (n : Int)) : rd (l.take n) t = l.getD t.toNat 0 := by
  unfold rd
  rw [List.getD_eq_getElem?_getD, List.getD_eq_getElem?_getD, List.getElem?_take_of_lt (by omega)]
theorem owLoop (s acc clo : Int) (ps : List S27) (hv : validB acc ps clo = true) : ∀ (d i k : Nat), ps.length - i = d → i ≤ ps.length → d * 210 + 1 ≤ k →
    aircheckref24_Owed.l0 k s ((sumB (thoseL (owedF s (backs ps)) 0 (ps.take i))).take acc.toNat) (i : Int) acc ps clo = some ((owL s ps).take acc.toNat, 0) := by
  have ha := valid_acc hv
  have hl := valid_len hv
  have hb1 := valid_book1 hv
  intro d
  induction d with
  | zero =>
    intro i k hd hi hk
    obtain ⟨k, rfl⟩ : ∃ q, k = q + 1 := ⟨k - 1, by omega⟩
    obtain rfl : i = ps.length := by omega
    rw [aircheckref24_Owed.l0, if_neg (by omega), List.take_length]
    rfl
  | succ d ih =>
    intro i k hd hi hk
    have hlt : i < ps.length := by omega
    obtain ⟨r, rfl⟩ : ∃ r, k = (((d + 1) + r) + 1) + 1 := ⟨k - 2 - (d + 1), by omega⟩
    have hnext := ih (i + 1) r (by omega) (by omega) (by omega)
    rw [ow_snoc s (backs ps) ps i hlt] at hnext
    have hbk := backs_of ps acc clo hv i (by omega)
    rw [any_behind hv i hlt] at hbk
    have hfm := valid_formed hv _ (rd_mem ps i hlt)
    have h1 := hb1 _ (rd_mem ps i hlt)
    have hL : ∀ q ∈ thoseL (owedF s (backs ps)) 0 (ps.take i), Book1 q := fun q hq => hb1 q (List.mem_of_mem_take (thoseL_mem _ _ _ q hq))
    have hbnd := sumB_bound _ hL
    have hlen2 : (thoseL (owedF s (backs ps)) 0 (ps.take i)).length ≤ 200 := by
      have := thoseL_len (owedF s (backs ps)) (ps.take i) 0
      rw [List.length_take] at this
      omega
    have hsl := sumB_len (thoseL (owedF s (backs ps)) 0 (ps.take i))
    rw [aircheckref24_Owed.l0, if_pos (by omega), if_pos (by omega)]
    generalize rd_T27 ps (i : Int) = p at *
    have hst : (if p.f0 = 3 then (aircheckref24_Owed.j2 (((d + 1) + r) + 1) s ((sumB (thoseL (owedF s (backs ps)) 0 (ps.take i))).take acc.toNat) (i : Int) false acc ps clo p.f0 p.f1 p.f2 p.f3 p.f4 p.f5 p.f6) else (aircheckref24_Owed.j2 (((d + 1) + r) + 1) s ((sumB (thoseL (owedF s (backs ps)) 0 (ps.take i))).take acc.toNat) (i : Int) (p.f5 == s) acc ps clo p.f0 p.f1 p.f2 p.f3 p.f4 p.f5 p.f6)) = owTail r s ((sumB (thoseL (owedF s (backs ps)) 0 (ps.take i))).take acc.toNat) (i : Int) (owedF s (backs ps) i p) acc clo ps p := by
      have e := owLoop1 s ((sumB (thoseL (owedF s (backs ps)) 0 (ps.take i))).take acc.toNat) (i : Int) acc clo ps hl p r d (i + 1)
      have e1 := e false (by omega) (by omega)
      have e2 := e (p.f5 == s) (by omega) (by omega)
      rw [← hbk] at e1 e2
      rw [show owedF s (backs ps) i p = (!(p.f0 == 3) && (p.f5 == s && !((backs ps).getD i false))) from rfl]
      by_cases h3 : p.f0 = 3
      · rw [if_pos h3, aircheckref24_Owed.j2, w1 hlt (by omega), e1]
        simp [h3]
      · rw [if_neg h3, aircheckref24_Owed.j2, w1 hlt (by omega), e2]
        congr 1
        simp [h3]
    rw [hst]
    generalize thoseL (owedF s (backs ps)) 0 (ps.take i) = L at *
    cases hw : owedF s (backs ps) i p with
    | false =>
      rw [hw, if_neg (by decide), List.append_nil] at hnext
      unfold owTail
      rw [if_neg (by decide), w1 hlt (by omega)]
      exact hnext
    | true =>
      rw [hw, if_pos rfl, sumB_snoc] at hnext
      have hfa : p.f2 < acc ∧ p.f3 < acc := by
        unfold formedB at hfm
        have := of_decide_eq_true hfm
        have e : wrap64 (acc - 1) = acc - 1 := by unfold wrap64; omega
        rw [e] at this
        omega
      unfold Book1 at h1
      have g : ∀ t : Int, 0 ≤ t → t ≤ 15 → -200000000000000 ≤ (sumB L).getD t.toNat 0 ∧ (sumB L).getD t.toNat 0 ≤ 200000000000000 := by
        intro t h0 h15
        have hx := List.getElem?_eq_getElem (show t.toNat < (sumB L).length by omega)
        have := hbnd _ (List.getElem_mem (show t.toNat < (sumB L).length by omega))
        rw [List.getD_eq_getElem?_getD, hx]
        simp only [Option.getD_some]
        omega
      have g3 := g p.f3 (by omega) (by omega)
      have g2 := g p.f2 (by omega) (by omega)
      unfold owTail
      have hol : ((sumB L).take acc.toNat).length = acc.toNat := by rw [List.length_take]; omega
      rw [if_pos rfl, if_pos (by omega), if_pos (by rw [hol]; omega), if_pos (by omega), if_pos (by rw [hol]; omega), w1 hlt (by omega)]
      rw [take_rd _ _ _ (by omega) (by omega), show wrap64 ((sumB L).getD p.f3.toNat 0 + p.f4) = (sumB L).getD p.f3.toNat 0 + p.f4 by unfold wrap64; omega]
      rw [← List.take_set, take_rd _ _ _ (by omega) (by omega)]
      have hne : p.f3.toNat ≠ p.f2.toNat := by omega
      rw [show ((sumB L).set p.f3.toNat ((sumB L).getD p.f3.toNat 0 + p.f4)).getD p.f2.toNat 0 = (sumB L).getD p.f2.toNat 0 by rw [List.getD_eq_getElem?_getD, List.getElem?_set_ne hne, ← List.getD_eq_getElem?_getD]]
      rw [show wrap64 ((sumB L).getD p.f2.toNat 0 - p.f4) = (sumB L).getD p.f2.toNat 0 - p.f4 by unfold wrap64; omega]
      rw [← List.take_set]
      exact hnext
theorem refOwed_is (k : Nat) (acc clo : Int) (ps : List S27) (s : Int) (hk : 50000 ≤ k) (hn : ps.length ≤ 1000000) :
    aircheckref24_Owed.f k acc ps clo s = some (owesF acc ps clo s) := by
  obtain ⟨k, rfl⟩ : ∃ q, k = q + 1 := ⟨k - 1, by omega⟩
  unfold aircheckref24_Owed.f owesF
  rw [refValid_is _ acc clo ps (by omega) hn, Option.bind_some]
  cases hv : validB acc ps clo with
  | false => rw [if_neg (by decide), aircheckref24_Owed.j0, if_pos rfl]; rfl
  | true =>
    have ha := valid_acc hv
    have hl := valid_len hv
    rw [if_pos rfl, in_is, Option.bind_some, Bool.true_and]
    by_cases hm : 0 ≤ s ∧ s ≤ 999
    · rw [decide_eq_true hm, Bool.not_true, aircheckref24_Owed.j0, if_neg (by decide), if_pos (by omega), if_pos (by omega), if_pos rfl]
      have h := owLoop s acc clo ps hv ps.length 0 k (by omega) (by omega) (by omega)
      have hz : (sumB (thoseL (owedF s (backs ps)) 0 (ps.take 0))).take acc.toNat = List.replicate acc.toNat 0 := by
        rw [List.take_zero]
        show (List.replicate 16 (0 : Int)).take acc.toNat = _
        rw [List.take_replicate, Nat.min_eq_left (by omega)]
      rw [hz] at h
      exact h
    · rw [decide_eq_false hm, Bool.not_false, aircheckref24_Owed.j0, if_pos rfl]; rfl
end Go.Proofs.Ytooogaogbffjfaa.Bk
end
section
-- Written by a program of this session out of the translation's print; not trusted: checked by the kernel.
namespace Go.Proofs.Ytooogaogbffjfaa.PB
open Go.Proofs.Ytooogaogbffjfaa.Ext
open Go.RowKit Go.Proofs.YtooogaogbffjfaaW.PrintWords Go.Proofs.YtooogaogbffjfaaW.PrintLast Go.Proofs.YtooogaogbffjfaaW.PrintMore
attribute [local go_sem] max2_int min2_int max_two min_two max_three min_three max_four min_four   -- for this text's walks alone
set_option linter.unusedVariables false
set_option linter.unusedSimpArgs false
/-! ### aircheckref24_pick: function 27 -/
def aircheckref24_pick.f (a0 : Int) (a1 : Int) : Option (Int) := if a0 < 0 then (if a1 = 0 then (none) else (some (Int.tmod (wrap64 (-(wrap64 (a0 + 1)))) a1))) else (if a1 = 0 then (none) else (some (Int.tmod a0 a1)))
set_option maxHeartbeats 8000000 in
set_option maxRecDepth 100000 in
theorem aircheckref24_pick.calls (a0 : Int) (a1 : Int) (r : Int) (w : World) (h : aircheckref24_pick.f a0 a1 = some r) :
  Calls Try.prog 27 #[.int .i64 a0, .int .i64 a1] w fun e w' => e = .returned (.int .i64 r) ∧ Drawn0 w w' := by
 have H : (if a0 < 0 then (if a1 = 0 then (none) else (some (Int.tmod (wrap64 (-(wrap64 (a0 + 1)))) a1))) else (if a1 = 0 then (none) else (some (Int.tmod a0 a1)))) = some r := h
 clear h
 by_cases c3 : a0 < 0
 ·rw [if_pos c3] at H
  have c3b0 : decide (a0 < 0) = true := decide_eq_true c3
  clear c3
  by_cases c4 : a1 = 0
  ·rw [if_pos c4] at H
   exact absurd H (by simp)
  ·rw [if_neg c4] at H
   have c4b0 : (a1 == 0) = false := beq_eq_false_iff_ne.mpr c4
   have c4b1 : (a1 != 0) = true := bne_iff_ne.mpr c4
   obtain rfl := Option.some.inj H
   go_enter Try.func27, Try.ntmps27
   go_wp2
   go_ret
   exact ⟨by first | rfl | (simp; done) | (simp [*]; done), by repeat (first | exact Drawn0.refl _ | apply Drawn0.step)⟩
 ·rw [if_neg c3] at H
  have c3b0 : decide (a0 < 0) = false := decide_eq_false c3
  clear c3
  by_cases c5 : a1 = 0
  ·rw [if_pos c5] at H
   exact absurd H (by simp)
  ·rw [if_neg c5] at H
   have c5b0 : (a1 == 0) = false := beq_eq_false_iff_ne.mpr c5
   have c5b1 : (a1 != 0) = true := bne_iff_ne.mpr c5
   obtain rfl := Option.some.inj H
   go_enter Try.func27, Try.ntmps27
   go_wp2
   go_ret
   exact ⟨by first | rfl | (simp; done) | (simp [*]; done), by repeat (first | exact Drawn0.refl _ | apply Drawn0.step)⟩
end Go.Proofs.Ytooogaogbffjfaa.PB
end
section
/-
  The book that integers determine: what Made returns.
-/
set_option linter.unusedVariables false
set_option linter.unusedSimpArgs false
namespace Go.Proofs.Ytooogaogbffjfaa.Bk
open Go.RowKit Go.Proofs.YtooogaogbffjfaaW.PrintWords Go.Proofs.YtooogaogbffjfaaW.PrintLast Go.Proofs.YtooogaogbffjfaaW.PrintMore Go.Proofs.Ytooogaogbffjfaa.Ext Go.Proofs.Ytooogaogbffjfaa.PB
/-- an integer as an index -/
def pk (c n : Int) : Int := (if c < 0 then -(c + 1) else c) % n
def I64 (c : Int) : Prop := -9223372036854775808 ≤ c ∧ c ≤ 9223372036854775807
theorem pk_bound (c n : Int) (hn : 0 < n) : 0 ≤ pk c n ∧ pk c n < n := ⟨Int.emod_nonneg _ (by omega), Int.emod_lt_of_pos _ hn⟩
theorem pick_is (c n : Int) (hc : I64 c) (hn : 0 < n) : aircheckref24_pick.f c n = some (pk c n) := by
  unfold I64 at hc
  unfold aircheckref24_pick.f pk
  by_cases h : c < 0
  · rw [if_pos h, if_neg (by omega), if_pos h, show wrap64 (c + 1) = c + 1 by unfold wrap64; omega, show wrap64 (-(c + 1)) = -(c + 1) by unfold wrap64; omega, Int.tmod_eq_emod_of_nonneg (by omega)]
  · rw [if_neg h, if_neg (by omega), if_neg h, Int.tmod_eq_emod_of_nonneg (by omega)]
/-- a state of Made: postings, closed months, day -/
abbrev MS := List S27 × Int × Int
def dayM (d : Int) (x : S48) : Int := if d + pk x.f1 20 < 359 then d + pk x.f1 20 else 359
def postM (acc d : Int) (x : S48) : S27 := ⟨1 + pk (Int.tdiv x.f4 7) 2, d, pk x.f2 acc, (pk x.f2 acc + 1 + pk x.f3 (acc - 1)) % acc, 1 + pk x.f4 1000, pk x.f4 6, -1⟩
def min2M (c : Int) : Int := if 30 * c < 359 then 30 * c else 359
def day2M (d c : Int) : Int := if d < min2M c then min2M c else d
def stepM (acc : Int) (s : MS) (x : S48) : MS :=
  if pk x.f0 6 = 4 then
    (if (dispF acc s.1 s.2.1 (pk x.f3 ((s.1.length : Int) + 1)) (dayM s.2.2 x) (pk x.f4 1000)).2.2.2 = 0 then ((dispF acc s.1 s.2.1 (pk x.f3 ((s.1.length : Int) + 1)) (dayM s.2.2 x) (pk x.f4 1000)).2.1, (dispF acc s.1 s.2.1 (pk x.f3 ((s.1.length : Int) + 1)) (dayM s.2.2 x) (pk x.f4 1000)).2.2.1, dayM s.2.2 x) else (s.1, s.2.1, dayM s.2.2 x))
  else if pk x.f0 6 = 5 then
    (if (closeF acc s.1 s.2.1 s.2.1).2.2.2 = 0 then ((closeF acc s.1 s.2.1 s.2.1).2.1, (closeF acc s.1 s.2.1 s.2.1).2.2.1, day2M (dayM s.2.2 x) (closeF acc s.1 s.2.1 s.2.1).2.2.1) else (s.1, s.2.1, day2M (dayM s.2.2 x) (closeF acc s.1 s.2.1 s.2.1).2.2.1))
  else
    (if (postF acc s.1 s.2.1 (postM acc (dayM s.2.2 x) x)).2.2.2.2 = 0 then ((postF acc s.1 s.2.1 (postM acc (dayM s.2.2 x) x)).2.1, (postF acc s.1 s.2.1 (postM acc (dayM s.2.2 x) x)).2.2.1, dayM s.2.2 x) else (s.1, s.2.1, dayM s.2.2 x))
def runM (acc : Int) (l : List S48) : MS := l.foldl (stepM acc) ([], 0, 0)
def accM (accounts : Int) : Int := 2 + pk accounts 15
theorem accM_bound (a : Int) : 2 ≤ accM a ∧ accM a ≤ 16 := by unfold accM; have := pk_bound a 15 (by omega); omega
theorem runM_snoc (acc : Int) (l : List S48) (x : S48) : runM acc (l ++ [x]) = stepM acc (runM acc l) x := by simp [runM]
/-- what holds of a state -/
def MOk (acc : Int) (n : Nat) (s : MS) : Prop := validB acc s.1 s.2.1 = true ∧ s.1.length ≤ 2 * n ∧ 0 ≤ s.2.2 ∧ s.2.2 ≤ 359
theorem valid_post {acc clo : Int} {ps : List S27} {p : S27} (h : (validB acc ps clo && postB acc clo ps p) = true) : validB acc (ps ++ [p]) clo = true := by
  unfold postB at h
  rw [Bool.and_eq_true, Bool.and_eq_true] at h
  rw [valid_snoc, h.1, h.2.2]; rfl
theorem post_cases (acc clo : Int) (ps : List S27) (p : S27) : ((validB acc ps clo && postB acc clo ps p) = true ∧ postF acc ps clo p = (acc, ps ++ [p], clo, (ps.length : Int), 0)) ∨ ((validB acc ps clo && postB acc clo ps p) = false ∧ postF acc ps clo p = (0, [], 0, 0, 240)) := by
  unfold postF
  cases h : (validB acc ps clo && postB acc clo ps p) with
  | true => exact .inl ⟨rfl, rfl⟩
  | false => exact .inr ⟨rfl, rfl⟩
theorem close_cases (acc clo : Int) (ps : List S27) (m : Int) : (validB acc ps clo = true ∧ m = clo ∧ (0 ≤ clo ∧ clo ≤ 11) ∧ closeF acc ps clo m = (acc, ps, clo + 1, 0)) ∨ (¬ (validB acc ps clo = true ∧ m = clo ∧ 0 ≤ clo ∧ clo ≤ 11) ∧ closeF acc ps clo m = errB) := by
  unfold closeF
  by_cases h : validB acc ps clo = true ∧ m = clo ∧ 0 ≤ clo ∧ clo ≤ 11
  · exact .inl ⟨h.1, h.2.1, h.2.2, by rw [h.1, decide_eq_true h.2.1, decide_eq_true h.2.2]; rfl⟩
  · refine .inr ⟨h, if_neg fun h2 => h ?_⟩
    rw [Bool.and_eq_true, Bool.and_eq_true] at h2
    exact ⟨h2.1.1, of_decide_eq_true h2.1.2, of_decide_eq_true h2.2⟩
/-- what a dispute comes to -/
inductive DispR (acc : Int) (ps : List S27) (clo i day amount : Int) : Int × List S27 × Int × Int → Prop
  | zero (h : validB acc ps clo = true) (hi : 0 ≤ i ∧ i < (ps.length : Int)) (ha : amount = 0) (h1 : postB acc clo ps (backP (rd_T27 ps i) i.toNat day) = true) : DispR acc ps clo i day amount (acc, ps ++ [backP (rd_T27 ps i) i.toNat day], clo, 0)
  | more (h : validB acc ps clo = true) (hi : 0 ≤ i ∧ i < (ps.length : Int)) (ha : 0 < amount ∧ amount ≤ 1000000000000) (h1 : postB acc clo ps (backP (rd_T27 ps i) i.toNat day) = true) (h2 : postB acc clo (ps ++ [backP (rd_T27 ps i) i.toNat day]) (newP (rd_T27 ps i) day amount) = true) : DispR acc ps clo i day amount (acc, ps ++ [backP (rd_T27 ps i) i.toNat day] ++ [newP (rd_T27 ps i) day amount], clo, 0)
  | err (h : ¬ (validB acc ps clo = true ∧ (0 ≤ i ∧ i < (ps.length : Int)) ∧ (0 ≤ amount ∧ amount ≤ 1000000000000) ∧ postB acc clo ps (backP (rd_T27 ps i) i.toNat day) = true ∧ (0 < amount → postB acc clo (ps ++ [backP (rd_T27 ps i) i.toNat day]) (newP (rd_T27 ps i) day amount) = true))) : DispR acc ps clo i day amount errB
theorem disp_cases (acc clo : Int) (ps : List S27) (i day amount : Int) : DispR acc ps clo i day amount (dispF acc ps clo i day amount) := by
  unfold dispF
  by_cases h : validB acc ps clo = true ∧ (0 ≤ i ∧ i < (ps.length : Int)) ∧ (0 ≤ amount ∧ amount ≤ 1000000000000) ∧ postB acc clo ps (backP (rd_T27 ps i) i.toNat day) = true
  · obtain ⟨h1, h2, h3, h4⟩ := h
    rw [h1, decide_eq_true h2, decide_eq_true h3, h4]
    simp only [Bool.and_self, if_true]
    by_cases ha : 0 < amount
    · rw [if_pos ha]
      cases h5 : postB acc clo (ps ++ [backP (rd_T27 ps i) i.toNat day]) (newP (rd_T27 ps i) day amount) with
      | true => rw [if_pos rfl]; exact .more h1 h2 ⟨ha, h3.2⟩ h4 h5
      | false => rw [if_neg (by decide)]; exact .err fun h => by have := h.2.2.2.2 ha; rw [h5] at this; cases this
    · rw [if_neg ha]; exact .zero h1 h2 (by omega) h4
  · rw [if_neg fun h2 => h ?_]
    · exact .err fun h2 => h ⟨h2.1, h2.2.1, h2.2.2.1, h2.2.2.2.1⟩
    · rw [Bool.and_eq_true, Bool.and_eq_true, Bool.and_eq_true] at h2
      exact ⟨h2.1.1.1, of_decide_eq_true h2.1.1.2, of_decide_eq_true h2.1.2, h2.2⟩
theorem disp_valid {acc clo : Int} {ps : List S27} {i day amount : Int} {r : Int × List S27 × Int × Int} (h : DispR acc ps clo i day amount r) (h0 : r.2.2.2 = 0) : r.1 = acc ∧ validB acc r.2.1 r.2.2.1 = true ∧ r.2.1.length ≤ ps.length + 2 ∧ r.2.2.1 = clo := by
  cases h with
  | zero h hi ha h1 => exact ⟨rfl, valid_post (by rw [h, h1]; rfl), by simp, rfl⟩
  | more h hi ha h1 h2 => exact ⟨rfl, valid_post (by rw [valid_post (by rw [h, h1]; rfl), h2]; rfl), by simp, rfl⟩
  | err h => exact absurd h0 (by decide)
theorem dayM_bound (d : Int) (x : S48) (h : 0 ≤ d) : 0 ≤ dayM d x ∧ dayM d x ≤ 359 := by
  have := pk_bound x.f1 20 (by omega)
  unfold dayM
  split <;> omega
theorem day2M_bound (d c : Int) (h : 0 ≤ d ∧ d ≤ 359) (hc : 0 ≤ c) : 0 ≤ day2M d c ∧ day2M d c ≤ 359 := by
  unfold day2M min2M
  split <;> split <;> omega
theorem step_ok (acc : Int) (n : Nat) (s : MS) (x : S48) (h : MOk acc n s) : MOk acc (n + 1) (stepM acc s x) := by
  obtain ⟨hv, hl, hd⟩ := h
  have h1 := dayM_bound s.2.2 x hd.1
  unfold stepM
  by_cases e4 : pk x.f0 6 = 4
  · rw [if_pos e4]
    have hd := disp_cases acc s.2.1 s.1 (pk x.f3 ((s.1.length : Int) + 1)) (dayM s.2.2 x) (pk x.f4 1000)
    generalize dispF acc s.1 s.2.1 (pk x.f3 ((s.1.length : Int) + 1)) (dayM s.2.2 x) (pk x.f4 1000) = r at *
    by_cases e : r.2.2.2 = 0
    · rw [if_pos e]
      have := disp_valid hd e
      exact ⟨this.2.1, by have := this.2.2.1; show r.2.1.length ≤ _; omega, h1⟩
    · rw [if_neg e]
      exact ⟨hv, by show s.1.length ≤ _; omega, h1⟩
  · rw [if_neg e4]
    by_cases e5 : pk x.f0 6 = 5
    · rw [if_pos e5]
      rcases close_cases acc s.2.1 s.1 s.2.1 with ⟨_, _, hc, e⟩ | ⟨_, e⟩
      · rw [e]
        refine ⟨?_, by show s.1.length ≤ _; omega, day2M_bound _ _ h1 (by show 0 ≤ s.2.1 + 1; omega)⟩
        show validB acc s.1 (s.2.1 + 1) = true
        unfold validB at hv ⊢
        rw [Bool.and_eq_true] at hv
        rw [hv.1, Bool.true_and]
        have := hv.2
        unfold inB at this ⊢
        have := of_decide_eq_true this
        exact decide_eq_true ⟨this.1, by omega⟩
      · rw [e]
        exact ⟨hv, by show s.1.length ≤ _; omega, day2M_bound _ _ h1 (Int.le_refl _)⟩
    · rw [if_neg e5]
      rcases post_cases acc s.2.1 s.1 (postM acc (dayM s.2.2 x) x) with ⟨hp, e⟩ | ⟨_, e⟩
      · rw [e]
        exact ⟨valid_post hp, by show (s.1 ++ [_]).length ≤ _; simp; omega, h1⟩
      · rw [e]
        exact ⟨hv, by show s.1.length ≤ _; omega, h1⟩
theorem start_ok (acc : Int) (ha : 2 ≤ acc ∧ acc ≤ 16) : MOk acc 0 ([], 0, 0) := by
  refine ⟨?_, by simp, by decide, by decide⟩
  unfold validB inB okAll
  exact decide_eq_true ⟨ha, by decide⟩
theorem run_ok (acc : Int) (ha : 2 ≤ acc ∧ acc ≤ 16) (l : List S48) : MOk acc l.length (runM acc l) := by
  generalize hm : l.length = m
  induction m generalizing l with
  | zero =>
    have : l = [] := List.eq_nil_of_length_eq_zero hm
    subst this
    exact start_ok acc ha
  | succ m ih =>
    rcases List.eq_nil_or_concat l with rfl | ⟨l, x, rfl⟩
    · simp at hm
    · rw [List.concat_eq_append] at *
      rw [runM_snoc]
      exact step_ok acc m _ x (ih l (by simpa using hm))
/-- the book of Made -/
def madeF (accounts : Int) (l : List S48) : Int × List S27 × Int := (accM accounts, (runM (accM accounts) (l.take 24)).1, (runM (accM accounts) (l.take 24)).2.1)
end Go.Proofs.Ytooogaogbffjfaa.Bk
end
section
/-
  What the books come to: sums over postings.
-/
set_option linter.unusedVariables false
set_option linter.unusedSimpArgs false
namespace Go.Proofs.Ytooogaogbffjfaa.Bk
open Go.RowKit Go.Proofs.YtooogaogbffjfaaW.PrintWords Go.Proofs.YtooogaogbffjfaaW.PrintLast Go.Proofs.YtooogaogbffjfaaW.PrintMore Go.Proofs.Ytooogaogbffjfaa.Ext
def sumI (g : Nat → S27 → Int) : Nat → List S27 → Int
  | _, [] => 0
  | i, p :: r => g i p + sumI g (i + 1) r
/-- a sum over numbers -/
def sumN (n : Nat) (f : Nat → Int) : Int := match n with | 0 => 0 | n + 1 => sumN n f + f n
/-- whether a posting stands -/
def standF (bk : List Bool) (i : Nat) (p : S27) : Bool := !(p.f0 == 3) && !(bk.getD i false)
/-- what stands, for a weight -/
def stW (v : S27 → Int) (l : List S27) : Int := sumI (fun i p => if standF (backs l) i p then v p else 0) 0 l
def alW (v : S27 → Int) (l : List S27) : Int := sumI (fun _ p => v p) 0 l
/-- the two of a taken back posting come to nothing -/
def Odd (v : S27 → Int) : Prop := ∀ p q : S27, isBackB p q = true → v p = - v q
/-- a list by its function -/
def L (n : Nat) (f : Nat → Int) : List Int := (List.range n).map f
theorem L_len (n : Nat) (f : Nat → Int) : (L n f).length = n := by simp [L]
theorem L_get (n : Nat) (f : Nat → Int) (i : Nat) (h : i < n) : (L n f)[i]? = some (f i) := by
  unfold L
  rw [List.getElem?_map, List.getElem?_range h]; rfl
theorem L_rd (n : Nat) (f : Nat → Int) (i : Int) (h0 : 0 ≤ i) (h : i < (n : Int)) : rd (L n f) i = f i.toNat := by
  unfold rd
  rw [List.getD_eq_getElem?_getD, L_get n f _ (by omega)]; rfl
theorem stL_L (m : Int) (ps : List S27) (h : ∀ p ∈ ps, Book1 p) (n : Nat) (hn : n ≤ 16) : (stL m ps).take n = L n fun t => tot (thoseL (stF m) 0 ps) (t : Int) := sumB_range _ (fun p hp => h p (thoseL_mem _ _ _ p hp)) n hn
end Go.Proofs.Ytooogaogbffjfaa.Bk
end
