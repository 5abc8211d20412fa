import Derived.Test.YtooogaogbffjfaaMBookSumsat
import Derived.Test.YtooogaogbffjfaaMBookSumsaw
import Derived.Test.YtooogaogbffjfaaMBookSumsad
import Derived.Test.YtooogaogbffjfaaRows
import Derived.WalkKit
import Derived.ProofKit
import Derived.OpenShut
import Derived.ShutString
import Derived.ChangeOld
import Derived.Below
import Derived.SizedLaws
import Derived.LaidMore
import Derived.Stop.Joined
import Derived.SevenTiedAt
import Derived.SliceStrings
import Derived.Lib.LaidTab
/-
  The law's contract, its pure statement, its row and its card. Conditions: the row's own.
-/
section
/-
  The pure statement of the law BookSums: what a book's balances come to.
-/
set_option linter.unusedVariables false
set_option linter.unusedSimpArgs false
namespace Go.Proofs.Ytooogaogbffjfaa.Pure
open Go.RowKit Go.Proofs.YtooogaogbffjfaaW.PrintWords Go.Proofs.YtooogaogbffjfaaW.PrintLast Go.Proofs.YtooogaogbffjfaaW.PrintMore Go.Proofs.Ytooogaogbffjfaa.Ext Go.Proofs.Ytooogaogbffjfaa.Bk Go.Proofs.Ytooogaogbffjfaa.PL
theorem ints_loop (a : List Int) (hn : a.length ≤ 1000000) : ∀ (d i k : Nat), a.length - i = d → i ≤ a.length → d < k → aircheckref24_Ints.l0 k a a (i : Int) = some true := by
  intro d
  induction d with
  | zero =>
    intro i k hd hi hk
    obtain ⟨k, rfl⟩ : ∃ q, k = q + 1 := ⟨k - 1, by omega⟩
    rw [aircheckref24_Ints.l0, if_neg (by omega)]
  | succ d ih =>
    intro i k hd hi hk
    obtain ⟨k, rfl⟩ : ∃ q, k = q + 1 := ⟨k - 1, by omega⟩
    rw [aircheckref24_Ints.l0, if_pos (by omega), if_pos (by omega), if_pos (by omega), if_pos rfl, w1 (show i < a.length by omega) hn]
    exact ih (i + 1) k (by omega) (by omega) (by omega)
theorem ints_same (k : Nat) (a : List Int) (hn : a.length ≤ 1000000) (hk : a.length < k) : aircheckref24_Ints.f k a a = some true := by
  unfold aircheckref24_Ints.f
  rw [if_pos rfl]
  exact ints_loop a hn a.length 0 k (by omega) (by omega) hk
/-- a book of Made -/
structure BookOk (n : Nat) (ps : List S27) (clo : Int) : Prop where
  v : validB (n : Int) ps clo = true
  s : ∀ p ∈ ps, 0 ≤ p.f5 ∧ p.f5 ≤ 5
theorem BookOk.acc {n : Nat} {ps : List S27} {clo : Int} (h : BookOk n ps clo) : 2 ≤ n ∧ n ≤ 16 := by have := valid_acc h.v; omega
theorem BookOk.len {n : Nat} {ps : List S27} {clo : Int} (h : BookOk n ps clo) : ps.length ≤ 200 := valid_len h.v
theorem BookOk.b1 {n : Nat} {ps : List S27} {clo : Int} (h : BookOk n ps clo) : ∀ p ∈ ps, Book1 p := valid_book1 h.v
theorem BookOk.in_ {n : Nat} {ps : List S27} {clo : Int} (h : BookOk n ps clo) : ∀ p ∈ ps, (0 ≤ p.f2 ∧ p.f2 < (n : Int)) ∧ (0 ≤ p.f3 ∧ p.f3 < (n : Int)) := by
  intro p hp
  have hf := valid_formed h.v p hp
  have ha := h.acc
  unfold formedB at hf
  have hf := of_decide_eq_true hf
  have e : wrap64 ((n : Int) - 1) = (n : Int) - 1 := by unfold wrap64; omega
  rw [e] at hf
  omega
theorem BookOk.st {n : Nat} {ps : List S27} {clo : Int} (h : BookOk n ps clo) (m : Int) (hm : 0 ≤ m ∧ m ≤ 11) : book_Statement.f (n : Int) ps clo m = some (L n (fun t => tot (thoseL (stF m) 0 ps) (t : Int)), 0) := by
  have hl := h.len
  have ha := h.acc
  unfold book_Statement.f stmtF
  rw [if_pos (by omega), h.v, decide_eq_true hm, Int.toNat_natCast, stL_L m ps h.b1 n ha.2]
  rfl
theorem BookOk.ow {n : Nat} {ps : List S27} {clo : Int} (h : BookOk n ps clo) (s : Int) (hs : 0 ≤ s ∧ s ≤ 999) : book_Owed.f (n : Int) ps clo s = some (L n (fun t => tot (thoseL (owedF s (backs ps)) 0 ps) (t : Int)), 0) := by
  have hl := h.len
  have ha := h.acc
  unfold book_Owed.f owesF
  rw [if_pos (by omega), h.v, decide_eq_true hs, Int.toNat_natCast, owL_L s ps h.b1 n ha.2]
  rfl
theorem BookOk.bal {n : Nat} {ps : List S27} {clo : Int} (h : BookOk n ps clo) (m : Int) (hm : 0 ≤ m ∧ m ≤ 11) (t : Nat) (ht : t < n) : book_Balance.f (n : Int) ps clo (t : Int) m = some (tot (thoseL (stF m) 0 ps) (t : Int), 0) := by
  unfold book_Balance.f
  rw [h.st m hm, Option.bind_some]
  simp only
  rw [if_pos trivial, if_neg (by omega), if_neg (by rw [L_len]; omega), if_pos (by omega), if_pos (by rw [L_len]; omega), L_rd _ _ _ (by omega) (by omega), Int.toNat_natCast]
theorem those_sum {n : Nat} {ps : List S27} {clo : Int} (h : BookOk n ps clo) (f : Nat → S27 → Bool) : sumN n (fun t => tot (thoseL f 0 ps) (t : Int)) = 0 := tot_sum n _ (fun p hp => h.in_ p (thoseL_mem _ _ _ p hp))
theorem part_bound {ps : List S27} (hb : ∀ p ∈ ps, Book1 p) (hl : ps.length ≤ 200) (f : Nat → Nat → S27 → Bool) (n : Nat) (hn : n ≤ 16) (t : Int) : -3200000000000000 ≤ sumN n (fun m => tot (thoseL (f m) 0 ps) t) ∧ sumN n (fun m => tot (thoseL (f m) 0 ps) t) ≤ 3200000000000000 := by
  have := sumN_bound n (fun m => tot (thoseL (f m) 0 ps) t) 200000000000000 (fun i _ => those_bound (f i) ps hb hl t)
  omega
theorem part_bound2 {ps : List S27} (hb : ∀ p ∈ ps, Book1 p) (hl : ps.length ≤ 200) (f : Nat → S27 → Bool) (n : Nat) (hn : n ≤ 16) : -3200000000000000 ≤ sumN n (fun t => tot (thoseL f 0 ps) (t : Int)) ∧ sumN n (fun t => tot (thoseL f 0 ps) (t : Int)) ≤ 3200000000000000 := by
  have := sumN_bound n (fun t => tot (thoseL f 0 ps) (t : Int)) 200000000000000 (fun i _ => those_bound f ps hb hl (i : Int))
  omega
def AllM (ps : List S27) (m : Nat) (t : Nat) : Int := sumN m fun m' => tot (thoseL (stF (m' : Int)) 0 ps) (t : Int)
def OweM (ps : List S27) (s : Nat) (t : Nat) : Int := sumN s fun s' => tot (thoseL (owedF (s' : Int) (backs ps)) 0 ps) (t : Int)
/-- the round over the accounts, for a month -/
theorem sums_l1 {n : Nat} {ps : List S27} {clo : Int} (h : BookOk n ps clo) (up : Bool) (m : Nat) (hm : m < 12) (r : Nat) : ∀ (d i : Nat), n - i = d → i ≤ n →
    airchecklaw24_BookSums.l1 (d + 1 + r) up (L n fun t => if t < i then AllM ps (m + 1) t else AllM ps m t) (m : Int) (L n fun t => tot (thoseL (stF (m : Int)) 0 ps) (t : Int)) (sumN i fun t => tot (thoseL (stF (m : Int)) 0 ps) (t : Int)) (i : Int) (n : Int) ps clo = airchecklaw24_BookSums.l0 r up (L n (AllM ps (m + 1))) ((m + 1 : Nat) : Int) (n : Int) ps clo := by
  have ha := h.acc
  intro d
  induction d with
  | zero =>
    intro i hd hi
    obtain rfl : i = n := by omega
    rw [show 0 + 1 + r = r + 1 by omega, airchecklaw24_BookSums.l1, if_neg (by omega), those_sum h, if_pos rfl, show wrap64 ((m : Int) + 1) = ((m + 1 : Nat) : Int) by unfold wrap64; omega]
    congr 1
    exact L_congr _ _ _ fun t ht => if_pos ht
  | succ d ih =>
    intro i hd hi
    have hlt : i < n := by omega
    have hb1 := part_bound h.b1 h.len (fun m' => stF (m' : Int)) m (by omega) (i : Int)
    have hb2 := those_bound (stF (m : Int)) ps h.b1 h.len (i : Int)
    have hb3 := part_bound2 h.b1 h.len (stF (m : Int)) i (by omega)
    rw [show d + 1 + 1 + r = (d + 1 + r) + 1 by omega, airchecklaw24_BookSums.l1, if_pos (by omega), h.bal (m : Int) (by omega) i hlt, Option.bind_some]
    simp only
    rw [if_pos trivial, if_pos (by omega), if_pos (by rw [L_len]; omega), L_rd _ _ _ (by omega) (by omega), Int.toNat_natCast, if_pos rfl, if_pos (by rw [L_len]; omega), L_rd _ _ _ (by omega) (by omega), Int.toNat_natCast, if_neg (by omega)]
    rw [show wrap64 (AllM ps m i + tot (thoseL (stF (m : Int)) 0 ps) (i : Int)) = AllM ps (m + 1) i by
      rw [show AllM ps (m + 1) i = AllM ps m i + tot (thoseL (stF (m : Int)) 0 ps) (i : Int) from rfl]
      unfold AllM
      unfold wrap64; omega]
    rw [L_set, w1 hlt (by omega)]
    have hn := ih (i + 1) (by omega) (by omega)
    have e1 : (sumN (i + 1) fun t => tot (thoseL (stF (m : Int)) 0 ps) (t : Int)) = wrap64 ((sumN i fun t => tot (thoseL (stF (m : Int)) 0 ps) (t : Int)) + tot (thoseL (stF (m : Int)) 0 ps) (i : Int)) := by rw [sumN]; unfold wrap64; omega
    rw [e1] at hn
    rw [← hn]
    congr 1
    refine L_congr _ _ _ fun t ht => ?_
    by_cases e : t = i
    · subst e; rw [if_pos rfl, if_pos (by omega)]
    · rw [if_neg e]
      by_cases e2 : t < i
      · rw [if_pos e2, if_pos (by omega)]
      · rw [if_neg e2, if_neg (by omega)]
/-- the rounds over the months -/
theorem sums_l0 {n : Nat} {ps : List S27} {clo : Int} (h : BookOk n ps clo) (up : Bool) (r : Nat) : ∀ (d m : Nat), 12 - m = d → m ≤ 12 →
    airchecklaw24_BookSums.l0 (d * 20 + 1 + r) up (L n (AllM ps m)) (m : Int) (n : Int) ps clo = airchecklaw24_BookSums.l2 r up (L n (AllM ps 12)) (L n fun _ => 0) 0 (n : Int) ps clo ∨ ∃ r', r ≤ r' ∧ airchecklaw24_BookSums.l0 (d * 20 + 1 + r) up (L n (AllM ps m)) (m : Int) (n : Int) ps clo = airchecklaw24_BookSums.l2 r' up (L n (AllM ps 12)) (L n fun _ => 0) 0 (n : Int) ps clo := by
  have ha := h.acc
  intro d
  induction d generalizing r with
  | zero =>
    intro m hd hm
    obtain rfl : m = 12 := by omega
    left
    rw [show 0 * 20 + 1 + r = r + 1 by omega, airchecklaw24_BookSums.l0, if_neg (by omega), if_pos (by omega), if_pos (by omega), Int.toNat_natCast, L_zero]
  | succ d ih =>
    intro m hd hm
    have hlt : m < 12 := by omega
    have e0 : airchecklaw24_BookSums.l0 ((d + 1) * 20 + 1 + r) up (L n (AllM ps m)) (m : Int) (n : Int) ps clo = airchecklaw24_BookSums.l0 (d * 20 + 1 + (r + (17 - n))) up (L n (AllM ps (m + 1))) ((m + 1 : Nat) : Int) (n : Int) ps clo := by
      rw [show (d + 1) * 20 + 1 + r = ((n + 1 + (d * 20 + 1 + (r + (17 - n)))) + 1) + 1 by omega, airchecklaw24_BookSums.l0, if_pos (by omega), h.st (m : Int) (by omega), Option.bind_some]
      simp only
      rw [if_pos trivial, L_len, show ((n : Int) != (n : Int)) = false by simp, airchecklaw24_BookSums.j1, if_neg (by decide)]
      have := sums_l1 h up m hlt (d * 20 + 1 + (r + (17 - n))) n 0 (by omega) (by omega)
      rw [← this]
      congr 1
    rw [e0]
    rcases ih (r + (17 - n)) (m + 1) (by omega) (by omega) with e | ⟨r', h1, e⟩
    · exact .inr ⟨_, by omega, e⟩
    · exact .inr ⟨r', by omega, e⟩
/-- the round over the accounts, for a subject -/
theorem sums_l3 {n : Nat} {ps : List S27} {clo : Int} (h : BookOk n ps clo) (up : Bool) (all : List Int) (m : Nat) (hm : m < 6) (r : Nat) : ∀ (d i : Nat), n - i = d → i ≤ n →
    airchecklaw24_BookSums.l3 (d + 1 + r) up all (L n fun t => if t < i then OweM ps (m + 1) t else OweM ps m t) (m : Int) (L n fun t => tot (thoseL (owedF (m : Int) (backs ps)) 0 ps) (t : Int)) (sumN i fun t => tot (thoseL (owedF (m : Int) (backs ps)) 0 ps) (t : Int)) (i : Int) (n : Int) ps clo = airchecklaw24_BookSums.l2 r up all (L n (OweM ps (m + 1))) ((m + 1 : Nat) : Int) (n : Int) ps clo := by
  have ha := h.acc
  intro d
  induction d with
  | zero =>
    intro i hd hi
    obtain rfl : i = n := by omega
    rw [show 0 + 1 + r = r + 1 by omega, airchecklaw24_BookSums.l3, if_neg (by omega), those_sum h, if_pos rfl, show wrap64 ((m : Int) + 1) = ((m + 1 : Nat) : Int) by unfold wrap64; omega]
    congr 1
    exact L_congr _ _ _ fun t ht => if_pos ht
  | succ d ih =>
    intro i hd hi
    have hlt : i < n := by omega
    have hb1 := part_bound h.b1 h.len (fun m' => owedF (m' : Int) (backs ps)) m (by omega) (i : Int)
    have hb2 := those_bound (owedF (m : Int) (backs ps)) ps h.b1 h.len (i : Int)
    have hb3 := part_bound2 h.b1 h.len (owedF (m : Int) (backs ps)) i (by omega)
    rw [show d + 1 + 1 + r = (d + 1 + r) + 1 by omega, airchecklaw24_BookSums.l3, if_pos (by omega), if_pos (by omega), if_pos (by rw [L_len]; omega), if_pos (by rw [L_len]; omega), L_rd _ _ _ (by omega) (by omega), L_rd _ _ _ (by omega) (by omega), Int.toNat_natCast, if_neg (by omega)]
    rw [show wrap64 (OweM ps m i + tot (thoseL (owedF (m : Int) (backs ps)) 0 ps) (i : Int)) = OweM ps (m + 1) i by
      rw [show OweM ps (m + 1) i = OweM ps m i + tot (thoseL (owedF (m : Int) (backs ps)) 0 ps) (i : Int) from rfl]
      unfold OweM
      unfold wrap64; omega]
    rw [L_set, w1 hlt (by omega)]
    have hn := ih (i + 1) (by omega) (by omega)
    have e1 : (sumN (i + 1) fun t => tot (thoseL (owedF (m : Int) (backs ps)) 0 ps) (t : Int)) = wrap64 ((sumN i fun t => tot (thoseL (owedF (m : Int) (backs ps)) 0 ps) (t : Int)) + tot (thoseL (owedF (m : Int) (backs ps)) 0 ps) (i : Int)) := by rw [sumN]; unfold wrap64; omega
    rw [e1] at hn
    rw [← hn]
    congr 1
    refine L_congr _ _ _ fun t ht => ?_
    by_cases e : t = i
    · subst e; rw [if_pos rfl, if_pos (by omega)]
    · rw [if_neg e]
      by_cases e2 : t < i
      · rw [if_pos e2, if_pos (by omega)]
      · rw [if_neg e2, if_neg (by omega)]
theorem sums_l2 {n : Nat} {ps : List S27} {clo : Int} (h : BookOk n ps clo) (up : Bool) (all : List Int) (r : Nat) : ∀ (d m : Nat), 6 - m = d → m ≤ 6 →
    ∃ r', r ≤ r' ∧ airchecklaw24_BookSums.l2 (d * 20 + 1 + r) up all (L n (OweM ps m)) (m : Int) (n : Int) ps clo = airchecklaw24_BookSums.l4 r' up all (L n (OweM ps 6)) 0 (n : Int) ps clo := by
  have ha := h.acc
  intro d
  induction d generalizing r with
  | zero =>
    intro m hd hm
    obtain rfl : m = 6 := by omega
    refine ⟨r, Nat.le_refl _, ?_⟩
    rw [show 0 * 20 + 1 + r = r + 1 by omega, airchecklaw24_BookSums.l2, if_neg (by omega)]
  | succ d ih =>
    intro m hd hm
    have hlt : m < 6 := by omega
    have e0 : airchecklaw24_BookSums.l2 ((d + 1) * 20 + 1 + r) up all (L n (OweM ps m)) (m : Int) (n : Int) ps clo = airchecklaw24_BookSums.l2 (d * 20 + 1 + (r + (17 - n))) up all (L n (OweM ps (m + 1))) ((m + 1 : Nat) : Int) (n : Int) ps clo := by
      rw [show (d + 1) * 20 + 1 + r = ((n + 1 + (d * 20 + 1 + (r + (17 - n)))) + 1) + 1 by omega, airchecklaw24_BookSums.l2, if_pos (by omega), h.ow (m : Int) (by omega), Option.bind_some]
      simp only
      rw [if_pos trivial, L_len, show ((n : Int) != (n : Int)) = false by simp, airchecklaw24_BookSums.j4, if_neg (by decide)]
      have := sums_l3 h up all m hlt (d * 20 + 1 + (r + (17 - n))) n 0 (by omega) (by omega)
      rw [← this]
      congr 1
    rw [e0]
    obtain ⟨r', h1, e⟩ := ih (r + (17 - n)) (m + 1) (by omega) (by omega)
    exact ⟨r', by omega, e⟩
theorem sub_delta (n : Nat) (f : Nat → Int) (p : S27) (h2 : 0 ≤ p.f2 ∧ p.f2 < (n : Int)) (h3 : 0 ≤ p.f3 ∧ p.f3 < (n : Int)) (hne : p.f2 ≠ p.f3) (ha : 1 ≤ p.f4 ∧ p.f4 ≤ 1000000000000) (hf : ∀ t, t < n → -9000000000000000 ≤ f t ∧ f t ≤ 9000000000000000) :
    ((L n f).set p.f3.toNat (wrap64 (rd (L n f) p.f3 - p.f4))).set p.f2.toNat (wrap64 (rd ((L n f).set p.f3.toNat (wrap64 (rd (L n f) p.f3 - p.f4))) p.f2 + p.f4)) = L n fun t => f t - delta p (t : Int) := by
  have b3 := hf p.f3.toNat (by omega)
  have b2 := hf p.f2.toNat (by omega)
  rw [L_rd n f p.f3 h3.1 h3.2, show wrap64 (f p.f3.toNat - p.f4) = f p.f3.toNat - p.f4 by unfold wrap64; omega, L_set, L_rd n _ p.f2 h2.1 h2.2, if_neg (by omega), show wrap64 (f p.f2.toNat + p.f4) = f p.f2.toNat + p.f4 by unfold wrap64; omega, L_set]
  refine L_congr _ _ _ fun t ht => ?_
  unfold delta
  by_cases e2 : t = p.f2.toNat
  · rw [if_pos e2, if_pos (show p.f2 = (t : Int) by omega), if_neg (show ¬ p.f3 = (t : Int) by omega), ← e2]; omega
  · rw [if_neg e2, if_neg (show ¬ p.f2 = (t : Int) by omega)]
    by_cases e3 : t = p.f3.toNat
    · rw [if_pos e3, if_pos (show p.f3 = (t : Int) by omega), ← e3]; omega
    · rw [if_neg e3, if_neg (show ¬ p.f3 = (t : Int) by omega)]; omega
/-- the round over the postings -/
theorem sums_l4 {n : Nat} {ps : List S27} {clo : Int} (h : BookOk n ps clo) (r : Nat) (hr : 100 ≤ r) : ∀ (d i : Nat), ps.length - i = d → i ≤ ps.length →
    airchecklaw24_BookSums.l4 (d + 1 + r) true (L n fun t => tot ps (t : Int) - tot (ps.take i) (t : Int)) (L n fun t => tot ps (t : Int) - tot (ps.take i) (t : Int)) (i : Int) (n : Int) ps clo = some true := by
  have ha := h.acc
  have hlen := h.len
  intro d
  induction d with
  | zero =>
    intro i hd hi
    obtain rfl : i = ps.length := by omega
    have hz : (L n fun t => tot ps (t : Int) - tot (ps.take ps.length) (t : Int)) = List.replicate n 0 := by
      rw [L_zero, List.take_length]
      exact L_congr _ _ _ fun t _ => by omega
    rw [show 0 + 1 + r = r + 1 by omega, airchecklaw24_BookSums.l4, if_neg (by omega), if_pos rfl, if_pos (by omega), if_pos (by omega), Int.toNat_natCast, hz, ints_same r _ (by simp; omega) (by simp; omega)]
    rfl
  | succ d ih =>
    intro i hd hi
    have hlt : i < ps.length := by omega
    have hm := rd_mem ps i hlt
    have hb := h.b1 _ hm
    have hin := h.in_ _ hm
    unfold Book1 at hb
    have hn := ih (i + 1) (by omega) (by omega)
    have hs := take_snoc ps i hlt
    have hbd : ∀ t, t < n → -9000000000000000 ≤ tot ps (t : Int) - tot (ps.take i) (t : Int) ∧ tot ps (t : Int) - tot (ps.take i) (t : Int) ≤ 9000000000000000 := by
      intro t _
      have h1 := tot_bound ps (t : Int) h.b1
      have h2 := tot_bound (ps.take i) (t : Int) (fun p hp => h.b1 p (List.mem_of_mem_take hp))
      have h3 : (ps.take i).length ≤ 200 := by rw [List.length_take]; omega
      omega
    have hsd := sub_delta n (fun t => tot ps (t : Int) - tot (ps.take i) (t : Int)) (rd_T27 ps (i : Int)) hin.1 hin.2 (by omega) (by omega) hbd
    have hnew : (L n fun t => tot ps (t : Int) - tot (ps.take (i + 1)) (t : Int)) = L n fun t => tot ps (t : Int) - tot (ps.take i) (t : Int) - delta (rd_T27 ps (i : Int)) (t : Int) := by
      refine L_congr _ _ _ fun t _ => ?_
      rw [hs, tot_snoc]; omega
    rw [hnew, ← hsd] at hn
    rw [show d + 1 + 1 + r = (d + 1 + r) + 1 by omega, airchecklaw24_BookSums.l4, if_pos (by omega), if_pos (by omega), if_pos (by omega), if_pos (by rw [L_len]; omega), Option.bind_some, if_pos (by omega), if_pos (by rw [L_len]; omega), if_pos (by rw [L_len]; omega), Option.bind_some, if_pos (by rw [L_len]; omega), w1 hlt (by omega)]
    exact hn
theorem sums_all {n : Nat} {ps : List S27} {clo : Int} (h : BookOk n ps clo) : airchecklaw24_BookSums.l0 3000 true (List.replicate n 0) 0 (n : Int) ps clo = some true := by
  have ha := h.acc
  have hlen := h.len
  have hz : List.replicate n (0 : Int) = L n (AllM ps 0) := by rw [L_zero]; rfl
  have hz2 : (L n fun _ => (0 : Int)) = L n (OweM ps 0) := rfl
  have e12 : L n (AllM ps 12) = L n fun t => tot ps (t : Int) - tot (ps.take 0) (t : Int) := by
    refine L_congr _ _ _ fun t _ => ?_
    unfold AllM
    rw [months_all ps h.b1, List.take_zero, tot_nil]; omega
  have e6 : L n (OweM ps 6) = L n fun t => tot ps (t : Int) - tot (ps.take 0) (t : Int) := by
    refine L_congr _ _ _ fun t _ => ?_
    unfold OweM
    rw [owed_all ps h.v h.s, List.take_zero, tot_nil]; omega
  have h1 : ∃ r', 2000 ≤ r' ∧ airchecklaw24_BookSums.l0 3000 true (List.replicate n 0) 0 (n : Int) ps clo = airchecklaw24_BookSums.l2 r' true (L n (AllM ps 12)) (L n fun _ => 0) 0 (n : Int) ps clo := by
    rw [hz]
    rcases sums_l0 h true 2759 12 0 (by omega) (by omega) with e | ⟨r', hr, e⟩
    · exact ⟨2759, by omega, e⟩
    · exact ⟨r', by omega, e⟩
  obtain ⟨r1, hr1, e1⟩ := h1
  rw [e1, hz2]
  obtain ⟨q, rfl⟩ : ∃ q, r1 = 6 * 20 + 1 + q := ⟨r1 - 121, by omega⟩
  obtain ⟨r2, hr2, e2⟩ := sums_l2 h true (L n (AllM ps 12)) q 6 0 (by omega) (by omega)
  have e2' : airchecklaw24_BookSums.l2 (6 * 20 + 1 + q) true (L n (AllM ps 12)) (L n (OweM ps 0)) 0 (n : Int) ps clo = airchecklaw24_BookSums.l4 r2 true (L n (AllM ps 12)) (L n (OweM ps 6)) 0 (n : Int) ps clo := e2
  rw [e2', e12, e6]
  obtain ⟨q2, rfl⟩ : ∃ q2, r2 = ps.length + 1 + q2 := ⟨r2 - (ps.length + 1), by omega⟩
  exact sums_l4 h q2 (by omega) ps.length 0 (by omega) (by omega)
/-- the subjects of a book of Made -/
theorem step_sub (acc : Int) (s : MS) (x : S48) (h : ∀ p ∈ s.1, 0 ≤ p.f5 ∧ p.f5 ≤ 5) : ∀ p ∈ (stepM acc s x).1, 0 ≤ p.f5 ∧ p.f5 ≤ 5 := by
  have hrd : ∀ i : Int, 0 ≤ i ∧ i < (s.1.length : Int) → 0 ≤ (rd_T27 s.1 i).f5 ∧ (rd_T27 s.1 i).f5 ≤ 5 := fun i hi => by
    obtain ⟨o, rfl⟩ := Int.eq_ofNat_of_zero_le hi.1
    exact h _ (rd_mem s.1 o (by omega))
  unfold stepM
  by_cases e4 : pk x.f0 6 = 4
  · rw [if_pos e4]
    have hd := disp_cases acc s.2.1 s.1 (pk x.f3 ((s.1.length : Int) + 1)) (dayM s.2.2 x) (pk x.f4 1000)
    generalize dispF acc s.1 s.2.1 (pk x.f3 ((s.1.length : Int) + 1)) (dayM s.2.2 x) (pk x.f4 1000) = r at *
    by_cases e : r.2.2.2 = 0
    · rw [if_pos e]
      cases hd with
      | zero hv hi ha h1 =>
        intro p hp
        rcases List.mem_append.1 hp with hp | hp
        · exact h p hp
        · rw [List.mem_singleton] at hp; subst hp; exact hrd _ hi
      | more hv hi ha h1 h2 =>
        intro p hp
        rcases List.mem_append.1 hp with hp | hp
        · rcases List.mem_append.1 hp with hp | hp
          · exact h p hp
          · rw [List.mem_singleton] at hp; subst hp; exact hrd _ hi
        · rw [List.mem_singleton] at hp; subst hp; exact hrd _ hi
      | err hn => exact absurd e (by decide)
    · rw [if_neg e]; exact h
  · rw [if_neg e4]
    by_cases e5 : pk x.f0 6 = 5
    · rw [if_pos e5]
      rcases close_cases acc s.2.1 s.1 s.2.1 with ⟨_, _, hc, e⟩ | ⟨_, e⟩
      · rw [e]; exact h
      · rw [e]; exact h
    · rw [if_neg e5]
      rcases post_cases acc s.2.1 s.1 (postM acc (dayM s.2.2 x) x) with ⟨hp, e⟩ | ⟨_, e⟩
      · rw [e]
        intro p hp
        rcases List.mem_append.1 hp with hp | hp
        · exact h p hp
        · rw [List.mem_singleton] at hp; subst hp
          have := pk_bound x.f4 6 (by omega)
          show 0 ≤ pk x.f4 6 ∧ pk x.f4 6 ≤ 5
          omega
      · rw [e]; exact h
theorem run_sub (acc : Int) (l : List S48) : ∀ p ∈ (runM acc l).1, 0 ≤ p.f5 ∧ p.f5 ≤ 5 := by
  generalize hm : l.length = m
  induction m generalizing l with
  | zero =>
    have : l = [] := List.eq_nil_of_length_eq_zero hm
    subst this
    intro p hp; cases hp
  | succ m ih =>
    rcases List.eq_nil_or_concat l with rfl | ⟨l, x, rfl⟩
    · simp at hm
    · rw [List.concat_eq_append] at *
      rw [runM_snoc]
      exact step_sub acc _ x (ih l (by simpa using hm))
theorem made_ok (a : Int) (l : List S48) : BookOk (accM a).toNat (madeF a l).2.1 (madeF a l).2.2 := by
  have hb := accM_bound a
  have h := run_ok (accM a) hb (l.take 24)
  exact ⟨by rw [show (((accM a).toNat : Nat) : Int) = accM a by omega]; exact h.1, run_sub _ _⟩
theorem i64_wf {c : Int} (h : W64 c) : I64 c := by
  unfold W64 at h
  unfold I64
  simpa [Lit.wf, IntKind.min, IntKind.max, IntKind.signed, IntKind.bits] using h
theorem i64x_wf {l : List S48} (h : ∀ x ∈ l, W64 x.f0 ∧ W64 x.f1 ∧ W64 x.f2 ∧ W64 x.f3 ∧ W64 x.f4) : ∀ x ∈ l, I64x x := fun x hx => by
  obtain ⟨h0, h1, h2, h3, h4⟩ := h x hx
  exact ⟨i64_wf h0, i64_wf h1, i64_wf h2, i64_wf h3, i64_wf h4⟩
theorem BookSums (a0 : Int) (l1 : List S48) (w0 : (Lit.int .i64 a0).wf = true) (w1 : ∀ x ∈ l1, W64 x.f0 ∧ W64 x.f1 ∧ W64 x.f2 ∧ W64 x.f3 ∧ W64 x.f4) : ∃ k, airchecklaw24_BookSums.f k a0 l1 = some true := by
  have h0 : I64 a0 := i64_wf w0
  have h1 := i64x_wf w1
  refine ⟨3000, ?_⟩
  have hb := accM_bound a0
  have h := made_ok a0 l1
  unfold airchecklaw24_BookSums.f airchecklaw24_sane.f aircheckref24_Made.f
  rw [Option.bind_some, if_pos ⟨h0, h1⟩, Option.bind_some]
  have e : (madeF a0 l1).1 = (((accM a0).toNat : Nat) : Int) := by show accM a0 = _; omega
  rw [e, if_pos (by omega), if_pos (by omega), Int.toNat_natCast]
  exact sums_all h
end Go.Proofs.Ytooogaogbffjfaa.Pure
end
section
/-
  The law BookSums answers true for every input: its row and its tied card. Conditions: the row's own (the listed table reads as the program's start lays it; the card ties that to the program's text).
-/
namespace Go.Proofs.Ytooogaogbffjfaa.bookSums
open Go.ChangeShapes Go.WideShapes Go.ChangeAt Go.RowKit
open Go.ChangeMaps (open_string shut_string)
set_option linter.unusedVariables false
theorem own : ownKnob Try.prog.godebug = none := by kernel_rfl
theorem laidOut : laidOutB Try.prog = true := by kernel_rfl
set_option maxRecDepth 100000 in
set_option maxHeartbeats 1000000 in
theorem lifted (os : Os) (started : os.Started) (H : Type) (enc : TypeId × Value → H) :
    ReturnsInHanded {} Try.checked os 4 .any (Rows.bookSumsSpec.pre6 enc Try.prog Try.f4 Rows.bookSumsRow.domain false) (Rows.bookSumsSpec.post enc Try.prog Try.f4 false true false false) := by
  refine returnsInHanded_of_change_sized (C := Try.checked) own started (by kernel_rfl) Try.func4
    (ChangeSpec.witness6 (enc := enc) (C := Try.checked) false ⟨#[], #[.int .i64 0, .slice none 0 0], []⟩ 8 (by kernel_rfl) (by kernel_rfl) (by kernel_rfl) (by kernel_rfl)) ?_
  intro W base args ds gs before hval0 hW hcnd hsz0 _
  have hsz : (DataW.weightsEach Try.prog (Try.f4.params.toList ++ Rows.bookSumsSpec.plain.varTypes Try.prog) (ds ++ gs)).all (· ≤ reachBytes) = true := hsz0
  have hval : ∀ (j : Nat) t v, Try.f4.params[j]? = some t → args[j]? = some v → Value.okWide Try.prog W .any base t v := hval0
  have hW' := hW
  obtain ⟨p, q, hA0, hV, rfl, hfz, hnd⟩ := hW
  have hA : DataW.TrodAll enc Try.prog W 0 (fun _ => true) true Try.f4.params.toList args.toList ds p := hA0
  rw [Try.params4] at hA hval hsz
  obtain ⟨v0, vs0, d0, ds0, p0, q0, hargs, rfl, rfl, h0, r0⟩ := trodAll_cons hA
  obtain ⟨v1, vs1, d1, ds1, p1, q1, rfl, rfl, rfl, h1, r1⟩ := trodAll_cons r0
  obtain ⟨rfl, rfl, rfl⟩ := trodAll_nil r1
  obtain rfl : args = #[v0, v1] := by cases args; simp_all
  obtain ⟨rfl, rfl⟩ := trodVars_none hV
  obtain ⟨a0, rfl, rfl, rfl, w0⟩ := open_int Try.underlying3 (hval 0 3 v0 rfl rfl) h0
  obtain ⟨a1, len1, cap1, rfl⟩ := okWide_slice Try.underlying25 (hval 1 25 v1 rfl rfl)
  have k1 := h1
  have lt1 : ∀ x ∈ p1, x.block < W.heap.size := by obtain ⟨m, hm⟩ := k1; exact DataW.trod_lt m _ _ _ hm
  obtain ⟨fuel1, hf1⟩ := h1
  obtain ⟨l1, rfl, hr1, hm1, hw1, hc1⟩ := Ext.rows48 (A := a1) (len := len1) (cap := cap1) hf1
  clear hA0 hval0 hsz0 hsz
  obtain ⟨k, hk⟩ := Pure.BookSums a0 l1 w0 hw1
  refine (PL.airchecklaw24_BookSums.calls k a0 _ _ l1 true W hr1 hc1 hk).mono fun e W' ⟨he, bel⟩ => ?_
  subst he
  exact ⟨_, rfl, _, _, _, [], _, [], hW', trodAll_mk1 (shut_bool Try.underlying4 _), (trodAll_cons_mk (shut_int Try.underlying3 w0) (trodAll_cons_mk (Below.trod laidOut (by kernel_rfl) (of_decide_eq_true (by kernel_rfl)) k1 bel lt1) trodAll_mk0)), rfl, bel.frame _, fun h => by cases h⟩
theorem over : Rows.bookSumsRow.holds Try.pinned (OpenSpec.ofChange Rows.bookSumsSpec) :=
  OpenClaim.holds_of_wide 4 Try.f4 rfl rfl rfl rfl rfl rfl rfl ⟨rfl, rfl, rfl, rfl, rfl⟩ rfl rfl rfl rfl rfl (by kernel_rfl) Try.func4 (by kernel_rfl)
    (of_decide_eq_true (by kernel_rfl)) (by unfold Func.isWrapper; first | (rw [if_pos (by decide +kernel)]; kernel_rfl) | (rw [if_neg (by decide +kernel)]; exact ⟨rfl, rfl⟩))
    (fun os started H enc _ => lifted os started H enc)
end Go.Proofs.Ytooogaogbffjfaa.bookSums
namespace Go.Proofs.Ytooogaogbffjfaa
theorem bookSums_holds : Rows.BookSumsSaid := bookSums.over
#print axioms bookSums_holds
end Go.Proofs.Ytooogaogbffjfaa
end
