import Derived.Test.YtooogaogbffjfaaMBookDisputesat
import Derived.Test.YtooogaogbffjfaaMBookDisputesal
import Derived.Test.YtooogaogbffjfaaMBookDisputesas
import Derived.Outline
/-
  Texts of this claim, one behind the other: what they prove stands above each.
-/
section
/-
  What a dispute does to a book that holds.
-/
set_option linter.unusedVariables false
set_option linter.unusedSimpArgs false
namespace Go.Proofs.Ytooogaogbffjfaa.Pure
open Go.RowKit Go.Proofs.YtooogaogbffjfaaW.PrintWords Go.Proofs.YtooogaogbffjfaaW.PrintLast Go.Proofs.YtooogaogbffjfaaW.PrintMore Go.Proofs.Ytooogaogbffjfaa.Ext Go.Proofs.Ytooogaogbffjfaa.Bk Go.Proofs.Ytooogaogbffjfaa.PB
theorem rd_some (ps : List S27) (i : Nat) (h : i < ps.length) : ps[i]? = some (rd_T27 ps (i : Int)) := by
  unfold rd_T27
  rw [Int.toNat_natCast, List.getD_eq_getElem?_getD, List.getElem?_eq_getElem h]
  rfl
/-- what is posted in a book that holds is formed -/
theorem okAll_formed (n : Int) : ∀ (l pre : List S27), okAll n pre l = true → ∀ p ∈ l, formedB n p = true := by
  intro l
  induction l with
  | nil => intro _ _ p hp; cases hp
  | cons q r ih =>
    intro pre h p hp
    rw [okAll, Bool.and_eq_true] at h
    rcases List.mem_cons.1 hp with rfl | hp
    · exact next_formed h.1
    · exact ih _ h.2 p hp
theorem BookOk.formed {n : Nat} {ps : List S27} {clo : Int} (h : BookOk n ps clo) : ∀ p ∈ ps, formedB (n : Int) p = true := by
  have hv := h.v
  unfold validB at hv
  rw [Bool.and_eq_true] at hv
  exact okAll_formed _ ps [] hv.1
theorem any_congr {α : Type} (l : List α) (f g : α → Bool) (h : ∀ x ∈ l, f x = g x) : l.any f = l.any g := by
  induction l with
  | nil => rfl
  | cons a r ih => rw [List.any_cons, List.any_cons, h a (List.mem_cons_self ..), ih fun x hx => h x (List.mem_cons_of_mem _ hx)]
/-- taken back: some posting names it -/
theorem BookOk.back {n : Nat} {ps : List S27} {clo : Int} (h : BookOk n ps clo) (i : Nat) (hi : i < 200) : (backs ps).getD i false = ps.any fun q => q.f6 == (i : Int) := by
  rw [List.getD_eq_getElem?_getD, backs_at _ _ hi, Option.getD_some]
  refine any_congr _ _ _ fun q hq => ?_
  rcases formed_of (h.formed q hq) with ⟨h1, h2⟩ | ⟨h1, h2, h3⟩
  · rw [decide_eq_false (by omega)]
    exact (beq_eq_false_iff_ne.2 (by omega)).symm
  · by_cases e : q.f6 = (i : Int)
    · rw [decide_eq_true ⟨h1, e⟩, e]; simp
    · rw [decide_eq_false fun h => e h.2]; exact (beq_eq_false_iff_ne.2 e).symm
/-- a dispute of what cannot be disputed -/
theorem disp_bad {n : Nat} {ps : List S27} {clo : Int} (h : BookOk n ps clo) (i : Nat) (hi : i < ps.length) (day amount : Int) (hd : day ≤ 359)
    (hb : (rd_T27 ps (i : Int)).f0 = 3 ∨ (ps.any fun q => q.f6 == (i : Int)) = true ∨ clo = 12) : dispF (n : Int) ps clo (i : Int) day amount = errB := by
  have hl := h.len
  have key : postB (n : Int) clo ps (backP (rd_T27 ps (i : Int)) i day) = false := by
    cases hp : postB (n : Int) clo ps (backP (rd_T27 ps (i : Int)) i day) with
    | false => rfl
    | true =>
      unfold postB at hp
      rw [Bool.and_eq_true] at hp
      obtain ⟨h1, h2⟩ := hp
      have h1 := of_decide_eq_true h1
      have h1 : 30 * clo ≤ day := h1
      unfold nextB at h2
      rw [Bool.and_eq_true, Bool.and_eq_true, Bool.and_eq_true, Bool.or_eq_true, Bool.and_eq_true, Bool.and_eq_true] at h2
      obtain ⟨_, _, _, h3⟩ := h2
      rcases h3 with h3 | ⟨_, h4, h5⟩
      · exact absurd rfl (of_decide_eq_true h3)
      · have h4 : (!(backs ps).getD ((i : Nat) : Int).toNat false) = true := h4
        rw [Int.toNat_natCast] at h4
        rcases hb with hb | hb | hb
        · have h5 : isBackB (backP (rd_T27 ps (i : Int)) i day) (rd_T27 ps (i : Int)) = true := h5
          unfold isBackB at h5
          exact absurd hb (of_decide_eq_true h5).1
        · rw [h.back i (by omega), hb] at h4
          cases h4
        · omega
  unfold dispF
  rw [Int.toNat_natCast, key, Bool.and_false]
  rfl
theorem rd_mem (ps : List S27) (i : Nat) (h : i < ps.length) : rd_T27 ps (i : Int) ∈ ps := List.mem_of_getElem? (rd_some ps i h)
/-- the posting that takes back may be posted -/
theorem back_ok {n : Nat} {ps : List S27} {clo : Int} (h : BookOk n ps clo) (i : Nat) (hi : i < ps.length) (day : Int) (hd : 0 ≤ day ∧ day ≤ 359) (hclo : 30 * clo ≤ day) (hday : dayOf ps ≤ day) (hl : ps.length < 200)
    (h3 : (rd_T27 ps (i : Int)).f0 ≠ 3) (hb : (ps.any fun q => q.f6 == (i : Int)) = false) : postB (n : Int) clo ps (backP (rd_T27 ps (i : Int)) i day) = true := by
  have hf := h.formed _ (rd_mem ps i hi)
  unfold postB nextB
  rw [decide_eq_true (show 30 * clo ≤ (backP (rd_T27 ps (i : Int)) i day).f1 from hclo), decide_eq_true hl, decide_eq_true (show ps = [] ∨ dayOf ps ≤ (backP (rd_T27 ps (i : Int)) i day).f1 from Or.inr hday)]
  have hbk : (backs ps).getD (backP (rd_T27 ps (i : Int)) i day).f6.toNat false = false := by
    rw [show (backP (rd_T27 ps (i : Int)) i day).f6.toNat = i from Int.toNat_natCast i, h.back i (by omega), hb]
  have hib : isBackB (backP (rd_T27 ps (i : Int)) i day) (ps.getD (backP (rd_T27 ps (i : Int)) i day).f6.toNat z27) = true := by
    change isBackB (backP (rd_T27 ps (i : Int)) i day) (rd_T27 ps (i : Int)) = true
    unfold isBackB
    exact decide_eq_true ⟨h3, rfl, rfl, rfl, rfl⟩
  have hfb : formedB (n : Int) (backP (rd_T27 ps (i : Int)) i day) = true := by
    generalize rd_T27 ps (i : Int) = p at hf
    unfold formedB at hf ⊢
    have hf := of_decide_eq_true hf
    exact decide_eq_true ⟨hd, hf.2.2.1, hf.2.1, fun e => hf.2.2.2.1 e.symm, hf.2.2.2.2.1, hf.2.2.2.2.2.1, Or.inr ⟨rfl, Int.natCast_nonneg i, show (i : Int) ≤ 199 by omega⟩⟩
  rw [hbk, hib, hfb, decide_eq_true (show (backP (rd_T27 ps (i : Int)) i day).f6 < (ps.length : Int) from (by unfold backP; simp only; omega))]
  simp
theorem dayOf_snoc (ps : List S27) (b : S27) : dayOf (ps ++ [b]) = b.f1 := by unfold dayOf; rw [List.getLast?_append]; rfl
theorem new_ok {n : Nat} {ps : List S27} {clo : Int} (h : BookOk n ps clo) (i : Nat) (hi : i < ps.length) (day amount : Int) (hd : 0 ≤ day ∧ day ≤ 359) (hclo : 30 * clo ≤ day) (hl : ps.length + 1 < 200) (ha : 0 < amount ∧ amount ≤ 1000000000000)
    (h3 : (rd_T27 ps (i : Int)).f0 ≠ 3) : postB (n : Int) clo (ps ++ [backP (rd_T27 ps (i : Int)) i day]) (newP (rd_T27 ps (i : Int)) day amount) = true := by
  have hf := h.formed _ (rd_mem ps i hi)
  have hfb : formedB (n : Int) (newP (rd_T27 ps (i : Int)) day amount) = true := by
    generalize rd_T27 ps (i : Int) = p at hf
    unfold formedB at hf ⊢
    have hf := of_decide_eq_true hf
    exact decide_eq_true ⟨hd, hf.2.1, hf.2.2.1, hf.2.2.2.1, ⟨by have := ha.1; show (1 : Int) ≤ amount; omega, ha.2⟩, hf.2.2.2.2.2.1, hf.2.2.2.2.2.2⟩
  unfold postB nextB
  rw [decide_eq_true (show 30 * clo ≤ (newP (rd_T27 ps (i : Int)) day amount).f1 from hclo), decide_eq_true (show (ps ++ [backP (rd_T27 ps (i : Int)) i day]).length < 200 by simp; omega), dayOf_snoc, hfb,
    decide_eq_true (show ps ++ [backP (rd_T27 ps (i : Int)) i day] = [] ∨ (backP (rd_T27 ps (i : Int)) i day).f1 ≤ (newP (rd_T27 ps (i : Int)) day amount).f1 from Or.inr (Int.le_refl _)),
    decide_eq_true (show (newP (rd_T27 ps (i : Int)) day amount).f0 ≠ 3 from h3)]
  rfl
/-- a dispute that is taken -/
theorem disp_good {n : Nat} {ps : List S27} {clo : Int} (h : BookOk n ps clo) (i : Nat) (hi : i < ps.length) (day amount : Int) (hd : 0 ≤ day ∧ day ≤ 359) (hclo : 30 * clo ≤ day) (hday : dayOf ps ≤ day) (hl : ps.length + 1 < 200) (ha : 0 ≤ amount ∧ amount ≤ 1000000000000)
    (h3 : (rd_T27 ps (i : Int)).f0 ≠ 3) (hb : (ps.any fun q => q.f6 == (i : Int)) = false) :
    dispF (n : Int) ps clo (i : Int) day amount = ((n : Int), if 0 < amount then ps ++ [backP (rd_T27 ps (i : Int)) i day] ++ [newP (rd_T27 ps (i : Int)) day amount] else ps ++ [backP (rd_T27 ps (i : Int)) i day], clo, 0) := by
  unfold dispF
  rw [Int.toNat_natCast, h.v, decide_eq_true (show 0 ≤ (i : Int) ∧ (i : Int) < (ps.length : Int) by omega), decide_eq_true ha, back_ok h i hi day hd hclo hday (by omega) h3 hb]
  rw [if_pos (by decide)]
  by_cases h0 : 0 < amount
  · rw [if_pos h0, if_pos h0, new_ok h i hi day amount hd hclo hl ⟨h0, ha.2⟩ h3, if_pos rfl]
  · rw [if_neg h0, if_neg h0]
theorem BookOk.post {n : Nat} {ps : List S27} {clo : Int} (h : BookOk n ps clo) {p : S27} (hp : postB (n : Int) clo ps p = true) (h5 : 0 ≤ p.f5 ∧ p.f5 ≤ 5) : BookOk n (ps ++ [p]) clo := by
  refine ⟨valid_post (by rw [h.v, hp]; rfl), fun q hq => ?_⟩
  rcases List.mem_append.1 hq with hq | hq
  · exact h.s q hq
  · rw [List.mem_singleton.1 hq]; exact h5
/-- the book behind a dispute -/
def dispL (ps : List S27) (i : Nat) (day amount : Int) : List S27 := if 0 < amount then ps ++ [backP (rd_T27 ps (i : Int)) i day] ++ [newP (rd_T27 ps (i : Int)) day amount] else ps ++ [backP (rd_T27 ps (i : Int)) i day]
theorem dispL_ok {n : Nat} {ps : List S27} {clo : Int} (h : BookOk n ps clo) (i : Nat) (hi : i < ps.length) (day amount : Int) (hd : 0 ≤ day ∧ day ≤ 359) (hclo : 30 * clo ≤ day) (hday : dayOf ps ≤ day) (hl : ps.length + 1 < 200) (ha : 0 ≤ amount ∧ amount ≤ 1000000000000)
    (h3 : (rd_T27 ps (i : Int)).f0 ≠ 3) (hb : (ps.any fun q => q.f6 == (i : Int)) = false) : BookOk n (dispL ps i day amount) clo := by
  have h1 := back_ok h i hi day hd hclo hday (by omega) h3 hb
  have h5 := h.s _ (rd_mem ps i hi)
  have hA := h.post h1 h5
  unfold dispL
  by_cases h0 : 0 < amount
  · rw [if_pos h0]
    exact hA.post (new_ok h i hi day amount hd hclo hl ⟨h0, ha.2⟩ h3) h5
  · rw [if_neg h0]
    exact hA
theorem dispL_any (ps : List S27) (i : Nat) (day amount : Int) : ((dispL ps i day amount).any fun q => q.f6 == (i : Int)) = true := by
  unfold dispL
  split <;> simp [backP]
theorem dispL_len (ps : List S27) (i : Nat) (day amount : Int) : ps.length < (dispL ps i day amount).length := by
  unfold dispL
  split <;> simp <;> omega
/-- the same dispute once more -/
theorem disp_again {n : Nat} {ps : List S27} {clo : Int} (i : Nat) (hi : i < ps.length) (day amount : Int) (hd : day ≤ 359) (h : BookOk n (dispL ps i day amount) clo) : dispF (n : Int) (dispL ps i day amount) clo (i : Int) day amount = errB :=
  disp_bad h i (by have := dispL_len ps i day amount; omega) day amount hd (Or.inr (Or.inl (dispL_any ps i day amount)))
/-- what a dispute adds to an account -/
def dAdd (p : S27) (amount t : Int) : Int := (if p.f3 = t then amount - p.f4 else 0) - (if p.f2 = t then amount - p.f4 else 0)
theorem add_two (p : S27) (i : Nat) (day amount t : Int) : delta (backP p i day) t + delta (newP p day amount) t = dAdd p amount t := by
  unfold delta dAdd backP newP
  simp only
  split <;> split <;> omega
theorem add_one (p : S27) (i : Nat) (day t : Int) : delta (backP p i day) t = dAdd p 0 t := by
  unfold delta dAdd backP
  simp only
  split <;> split <;> omega
theorem st_disp (ps : List S27) (i : Nat) (day amount m t : Int) (ha : 0 ≤ amount) : tot (thoseL (stF m) 0 (dispL ps i day amount)) t = tot (thoseL (stF m) 0 ps) t + if day / 30 = m then dAdd (rd_T27 ps (i : Int)) amount t else 0 := by
  have e1 (j : Nat) : stF m j (backP (rd_T27 ps (i : Int)) i day) = (day / 30 == m) := rfl
  have e2 (j : Nat) : stF m j (newP (rd_T27 ps (i : Int)) day amount) = (day / 30 == m) := rfl
  unfold dispL
  by_cases h0 : 0 < amount
  · rw [if_pos h0, thoseL_snoc, thoseL_snoc, e1, e2, tot_append, tot_append]
    by_cases hm : day / 30 = m
    · rw [if_pos (by simp [hm]), if_pos hm, if_pos (by simp [hm]), ← add_two (rd_T27 ps (i : Int)) i day amount t]
      simp [tot]; omega
    · rw [if_neg (by simp [hm]), if_neg hm, if_neg (by simp [hm])]
      simp [tot]
  · obtain rfl : amount = 0 := by omega
    rw [if_neg h0, thoseL_snoc, e1, tot_append]
    by_cases hm : day / 30 = m
    · rw [if_pos (by simp [hm]), if_pos hm, ← add_one (rd_T27 ps (i : Int)) i day t]
      simp [tot]
    · rw [if_neg (by simp [hm]), if_neg hm]
      simp [tot]
theorem owed_stW (s t : Int) (ps : List S27) : tot (thoseL (owedF s (backs ps)) 0 ps) t = stW (fun q => if q.f5 = s then delta q t else 0) ps := by
  rw [tot_those]
  unfold stW
  refine sumI_congr _ _ ps 0 fun j q hq => ?_
  unfold owedF standF
  by_cases h1 : q.f5 = s <;> by_cases h2 : q.f0 = 3 <;> cases (backs ps).getD (0 + j) false <;> simp [h1, h2]
theorem ow_disp {n : Nat} {ps : List S27} {clo : Int} (i : Nat) (hi : i < ps.length) (day amount s t : Int) (ha : 0 ≤ amount) (h3 : (rd_T27 ps (i : Int)).f0 ≠ 3) (h1 : validB (n : Int) (ps ++ [backP (rd_T27 ps (i : Int)) i day]) clo = true) (h : BookOk n (dispL ps i day amount) clo) :
    tot (thoseL (owedF s (backs (dispL ps i day amount))) 0 (dispL ps i day amount)) t = tot (thoseL (owedF s (backs ps)) 0 ps) t + if (rd_T27 ps (i : Int)).f5 = s then dAdd (rd_T27 ps (i : Int)) amount t else 0 := by
  rw [owed_stW, owed_stW]
  generalize hv : (fun q : S27 => if q.f5 = s then delta q t else 0) = v
  have hvp : v (rd_T27 ps (i : Int)) = if (rd_T27 ps (i : Int)).f5 = s then delta (rd_T27 ps (i : Int)) t else 0 := by rw [← hv]
  have hvn : v (newP (rd_T27 ps (i : Int)) day amount) = if (rd_T27 ps (i : Int)).f5 = s then delta (newP (rd_T27 ps (i : Int)) day amount) t else 0 := by rw [← hv]; rfl
  have hb : stW v (ps ++ [backP (rd_T27 ps (i : Int)) i day]) = stW v ps - v (rd_T27 ps (i : Int)) := by
    rcases stW_snoc v h1 with ⟨h0, _⟩ | ⟨_, _, _, _, _, _, h0⟩
    · exact absurd rfl h0
    · exact h0
  by_cases h0 : 0 < amount
  · have hok := h.v
    unfold dispL at hok ⊢
    rw [if_pos h0] at hok ⊢
    rcases stW_snoc v hok with ⟨_, h2⟩ | ⟨h2, _⟩
    · rw [h2, hb, hvp, hvn]
      generalize stW v ps = z
      unfold dAdd delta newP
      simp only
      split
      · split <;> split <;> omega
      · omega
    · exact absurd h2 h3
  · obtain rfl : amount = 0 := by omega
    unfold dispL
    rw [if_neg h0, hb, hvp]
    generalize stW v ps = z
    unfold dAdd delta
    split
    · split <;> split <;> omega
    · omega
end Go.Proofs.Ytooogaogbffjfaa.Pure
end
section
-- Written by a program of this session out of the translation's print; not trusted: checked by the kernel.
namespace Go.Proofs.Ytooogaogbffjfaa.PB
open Go.Proofs.Ytooogaogbffjfaa.Ext
open Go.RowKit Go.Proofs.YtooogaogbffjfaaW.PrintWords Go.Proofs.YtooogaogbffjfaaW.PrintLast Go.Proofs.YtooogaogbffjfaaW.PrintMore
attribute [local go_sem] max2_int min2_int max_two min_two max_three min_three max_four min_four   -- for this text's walks alone
set_option linter.unusedVariables false
set_option linter.unusedSimpArgs false
theorem eqA27 (d : Nat) (w : World) (x0 y0 : Int) (x1 y1 : Int) (x2 y2 : Int) (x3 y3 : Int) (x4 y4 : Int) (x5 y5 : Int) (x6 y6 : Int) :
  (Op.equalIn (d + 2) 27 (.agg #[.int .i64 x0, .int .i64 x1, .int .i64 x2, .int .i64 x3, .int .i64 x4, .int .i64 x5, .int .i64 x6]) (.agg #[.int .i64 y0, .int .i64 y1, .int .i64 y2, .int .i64 y3, .int .i64 y4, .int .i64 y5, .int .i64 y6])).run Try.prog w = .ok (x0 == y0 && (x1 == y1 && (x2 == y2 && (x3 == y3 && (x4 == y4 && (x5 == y5 && (x6 == y6))))))) w := by
 refine eqA_of Try.underlying27 (by kernel_rfl) ?_
 refine eqf_cons (by rfl) (by go_simp; rfl) (by go_simp; rfl) (by go_simp) ?_
 refine eqf_cons (by rfl) (by go_simp; rfl) (by go_simp; rfl) (by go_simp) ?_
 refine eqf_cons (by rfl) (by go_simp; rfl) (by go_simp; rfl) (by go_simp) ?_
 refine eqf_cons (by rfl) (by go_simp; rfl) (by go_simp; rfl) (by go_simp) ?_
 refine eqf_cons (by rfl) (by go_simp; rfl) (by go_simp; rfl) (by go_simp) ?_
 refine eqf_cons (by rfl) (by go_simp; rfl) (by go_simp; rfl) (by go_simp) ?_
 exact eqf_last (by rfl) (by go_simp; rfl) (by go_simp; rfl) (by go_simp)
end Go.Proofs.Ytooogaogbffjfaa.PB
end
section
/-
  The law's fixed examples hold: the walk of sane.
-/
set_option linter.unusedVariables false
set_option linter.unusedSimpArgs false
namespace Go.Proofs.Ytooogaogbffjfaa.Ext
open Go.RowKit Go.Proofs.YtooogaogbffjfaaW.PrintWords Go.Proofs.YtooogaogbffjfaaW.PrintLast Go.Proofs.YtooogaogbffjfaaW.PrintMore Go.Proofs.Ytooogaogbffjfaa.PK Go.Proofs.Ytooogaogbffjfaa.Bk Go.Proofs.Ytooogaogbffjfaa.PB
attribute [local go_sem] Oper.semAt_some
attribute [local go_sem high] eqA27
/-- what a call leaves: rows of its own that read as a list -/
def Row {α : Type} (d : Kd α) (e : Nat) (w w' : World) (A : Option Addr) (n c : Nat) (l : List α) : Prop := Kd.C d w' A n l ∧ n ≤ c ∧ Below w.heap.size w w'
theorem Row.of {α : Type} {d : Kd α} {e : Nat} {w w' : World} {v : Value} {l : List α} (n : Nat) (hn : l.length = n) (h : Kd.R d e w' w.heap.size (fun _ => True) v l) (hb : Below w.heap.size w w') : ∃ A c, v = .slice A n c ∧ Row d e w w' A n c l := by
  obtain ⟨A, c, rfl⟩ := Kd.R_slice h
  have := Kd.R_reads' h
  subst hn
  exact ⟨A, c, rfl, this.2.2, this.2.1, hb⟩
def sp0 : S27 := ⟨2, 5, 0, 1, 90, 7, -1⟩
def sp1 : S27 := ⟨3, 40, 1, 0, 90, 7, 0⟩
def sp2 : S27 := ⟨2, 40, 0, 1, 60, 7, -1⟩
theorem s_post (w : World) : Calls Try.prog 9 #[.agg #[.int .i64 3, .slice none 0 0, .int .i64 0], .agg #[.int .i64 2, .int .i64 5, .int .i64 0, .int .i64 1, .int .i64 90, .int .i64 7, .int .i64 (-1)]] w fun e w' => ∃ A c, e = .returned (.tuple #[.agg #[.int .i64 3, .slice A 1 c, .int .i64 0], .int .i64 0, .int .i64 0]) ∧ Row k27 27 w w' A 1 c [sp0] := by
  refine (book_Post.calls 3 none 0 [] 0 2 5 0 1 90 7 (-1) 3 [sp0] 0 0 0 w (Kd.C_nil _ _) (Nat.le_refl _) (by kernel_rfl)).mono ?_
  rintro e w' ⟨v, rfl, hR, hb⟩
  obtain ⟨A, c, rfl, h⟩ := Row.of 1 rfl hR hb
  exact ⟨A, c, rfl, h⟩
theorem s_post2 (w : World) (A : Option Addr) (c : Nat) (hC : Kd.C k27 w A 3 [sp0, sp1, sp2]) (hc : 3 ≤ c) : Calls Try.prog 9 #[.agg #[.int .i64 3, .slice A 3 c, .int .i64 0], .agg #[.int .i64 2, .int .i64 39, .int .i64 0, .int .i64 1, .int .i64 1, .int .i64 0, .int .i64 (-1)]] w fun e w' => e = .returned (.tuple #[.agg #[.int .i64 0, .slice none 0 0, .int .i64 0], .int .i64 0, .int .i64 240]) ∧ Below w.heap.size w w' := by
  have ho : okAll 3 [] [sp0, sp1, sp2] = true := by kernel_rfl
  exact Post_no3 3 0 A c [sp0, sp1, sp2] ⟨2, 39, 0, 1, 1, 0, -1⟩ w hC (by decide) ho (by kernel_rfl) (by kernel_rfl)
theorem s_disp (w : World) (A : Option Addr) (c : Nat) (hC : Kd.C k27 w A 1 [sp0]) (hc : 1 ≤ c) : Calls Try.prog 15 #[.agg #[.int .i64 3, .slice A 1 c, .int .i64 0], .int .i64 0, .int .i64 40, .int .i64 60] w fun e w' => ∃ A c, e = .returned (.tuple #[.agg #[.int .i64 3, .slice A 3 c, .int .i64 0], .int .i64 0]) ∧ Row k27 27 w w' A 3 c [sp0, sp1, sp2] := by
  refine (book_Dispute.calls 3 A c [sp0] 0 0 40 60 3 [sp0, sp1, sp2] 0 0 w hC hc (by kernel_rfl)).mono ?_
  rintro e w' ⟨v, rfl, hR, hb⟩
  obtain ⟨A, c, rfl, h⟩ := Row.of 3 rfl hR hb
  exact ⟨A, c, rfl, h⟩
theorem s_disp2 (w : World) (A : Option Addr) (c : Nat) (hC : Kd.C k27 w A 3 [sp0, sp1, sp2]) (hc : 3 ≤ c) : Calls Try.prog 15 #[.agg #[.int .i64 3, .slice A 3 c, .int .i64 0], .int .i64 0, .int .i64 50, .int .i64 1] w fun e w' => e = .returned (.tuple #[.agg #[.int .i64 0, .slice none 0 0, .int .i64 0], .int .i64 240]) ∧ Below w.heap.size w w' :=
  Dispute_no6 3 0 A c 3 [sp0, sp1, sp2] rfl 0 50 1 w hC (by decide) (by kernel_rfl) (by kernel_rfl) 0 rfl (by decide) (by decide) (by decide) sp0 rfl (by kernel_rfl)
theorem s_close (w : World) (A : Option Addr) (c : Nat) (hC : Kd.C k27 w A 3 [sp0, sp1, sp2]) (hc : 3 ≤ c) : Calls Try.prog 17 #[.agg #[.int .i64 3, .slice A 3 c, .int .i64 0], .int .i64 0] w fun e w' => ∃ A c, e = .returned (.tuple #[.agg #[.int .i64 3, .slice A 3 c, .int .i64 1], .int .i64 0]) ∧ Row k27 27 w w' A 3 c [sp0, sp1, sp2] := by
  refine (book_Close.calls 3 A c [sp0, sp1, sp2] 0 0 3 [sp0, sp1, sp2] 1 0 w hC hc (by kernel_rfl)).mono ?_
  rintro e w' ⟨v, rfl, hR, hb⟩
  obtain ⟨A, c, rfl, h⟩ := Row.of 3 rfl hR hb
  exact ⟨A, c, rfl, h⟩
theorem s_stmt (w : World) (A : Option Addr) (n c : Nat) (ps : List S27) (hn : ps.length = n) (m : Int) (a b : Int) (hC : Kd.C k27 w A n ps) (hc : n ≤ c) (h : book_Statement.f 3 ps 0 m = some ([a, b, 0], 0)) : Calls Try.prog 19 #[.agg #[.int .i64 3, .slice A n c, .int .i64 0], .int .i64 m] w fun e w' => ∃ B d, e = .returned (.tuple #[.slice B 3 d, .int .i64 0]) ∧ Row (Kd.int .i64) 3 w w' B 3 d [a, b, 0] := by
  subst hn
  refine (book_Statement.calls 3 A c ps 0 m [a, b, 0] 0 w hC hc h).mono ?_
  rintro e w' ⟨v, rfl, hR, hb⟩
  obtain ⟨A, c, rfl, h⟩ := Row.of 3 rfl hR hb
  exact ⟨A, c, rfl, h⟩
theorem s_owed (w : World) (A : Option Addr) (c : Nat) (hC : Kd.C k27 w A 3 [sp0, sp1, sp2]) (hc : 3 ≤ c) : Calls Try.prog 24 #[.agg #[.int .i64 3, .slice A 3 c, .int .i64 0], .int .i64 7] w fun e w' => ∃ B d, e = .returned (.tuple #[.slice B 3 d, .int .i64 0]) ∧ Row (Kd.int .i64) 3 w w' B 3 d [-60, 60, 0] := by
  refine (book_Owed.calls 3 A c [sp0, sp1, sp2] 0 7 [-60, 60, 0] 0 w hC hc (by kernel_rfl)).mono ?_
  rintro e w' ⟨v, rfl, hR, hb⟩
  obtain ⟨A, c, rfl, h⟩ := Row.of 3 rfl hR hb
  exact ⟨A, c, rfl, h⟩
theorem s_bal (w : World) (A : Option Addr) (c : Nat) (hC : Kd.C k27 w A 3 [sp0, sp1, sp2]) (hc : 3 ≤ c) : Calls Try.prog 21 #[.agg #[.int .i64 3, .slice A 3 c, .int .i64 0], .int .i64 1, .int .i64 1] w fun e w' => e = .returned (.tuple #[.int .i64 (-30), .int .i64 0]) ∧ Below w.heap.size w w' :=
  book_Balance.calls 3 A c [sp0, sp1, sp2] 0 1 1 (-30) 0 w hC hc (by kernel_rfl)
theorem s_valid (w : World) (A : Option Addr) (c : Nat) (hC : Kd.C k27 w A 3 [sp0, sp1, sp2]) (hc : 3 ≤ c) : Calls Try.prog 11 #[.agg #[.int .i64 3, .slice A 3 c, .int .i64 1]] w fun e w' => e = .returned (.bool true) ∧ Below w.heap.size w w' :=
  book_Valid.calls 3 A c [sp0, sp1, sp2] 1 true w hC hc (by kernel_rfl)
theorem s_valid0 (w : World) : Calls Try.prog 11 #[.agg #[.int .i64 0, .slice none 0 0, .int .i64 0]] w fun e w' => e = .returned (.bool false) ∧ Below w.heap.size w w' :=
  book_Valid.calls 0 none 0 [] 0 false w (Kd.C_nil _ _) (Nat.le_refl _) (by kernel_rfl)
theorem s_ints (w : World) (A B : Option Addr) (c d : Nat) (x y z : Int) (hA : Kd.C (Kd.int .i64) w A 3 [x, y, z]) (hB : Kd.C (Kd.int .i64) w B 3 [x, y, z]) (hc : 3 ≤ c) (hd : 3 ≤ d) : Calls Try.prog 23 #[.slice A 3 c, .slice B 3 d] w fun e w' => e = .returned (.bool true) ∧ Drawn0 w w' := by
  refine aircheckref24_Ints.calls 5 A c [x, y, z] B d [x, y, z] true w hA hc hB hd ?_
  simp [aircheckref24_Ints.f, aircheckref24_Ints.l0, rd, wrap64]
theorem lit3 (w : World) (x y z : Int) : Kd.C (Kd.int .i64) (w.alloc (.cells #[.int .i64 x, .int .i64 y, .int .i64 z] 3)) (some ⟨w.heap.size, 0, none⟩) 3 [x, y, z] := by
  refine Kd.C_of_reads (d := (0 : Int)) (h1 := fun _ => rfl) ⟨rfl, by omega, fun _ => ⟨_, rfl, fun j hj => ?_⟩⟩
  have hB := Blk.newA w 3 #[.int .i64 x, .int .i64 y, .int .i64 z] [.int .i64 x, .int .i64 y, .int .i64 z] rfl
  match j, hj with
  | 0, _ => exact hB.cell (j := 0) rfl
  | 1, _ => exact hB.cell (j := 1) rfl
  | 2, _ => exact hB.cell (j := 2) rfl
set_option maxRecDepth 100000 in
set_option maxHeartbeats 8000000 in
theorem sane_walk (w : World) : Calls Try.prog 7 #[] w fun e w' => e = .returned (.bool true) ∧ Below w.heap.size w w' := by
  go_enter Try.func7, Try.ntmps7
  go_wp2_with (first | (go_at_call 9; (with_reducible refine (s_post _).mono ?_); rintro e w1 ⟨A1, c1, rfl, h1⟩) | fail)
  have hB1 : Blk (w1.alloc (.cells #[.int .i64 3, .slice A1 1 c1, .int .i64 0] 24)) w1.heap.size 24 [.int .i64 3, .slice A1 1 c1, .int .i64 0] := Blk.newA w1 _ _ _ rfl
  have hn1 : Below w1.heap.size w1 (w1.alloc (.cells #[.int .i64 3, .slice A1 1 c1, .int .i64 0] 24)) := (Below.refl _ _).alloc (Nat.le_refl _) _
  have hC1 := Kd.C_below h1.1 hn1
  have HW1 := Lib.hid (Below.trans h1.2.2 (hn1.mono h1.2.2.size))
  clear hn1
  generalize w1.alloc (.cells #[.int .i64 3, .slice A1 1 c1, .int .i64 0] 24) = W1 at *
  generalize w1.heap.size = g1 at *
  have HC1 := Lib.hid (And.intro hC1 h1.2.1)
  clear h1 hC1
  have x0 := hB1.cell (j := 0) rfl
  have x1 := hB1.cell (j := 1) rfl
  have x2 := hB1.cell (j := 2) rfl
  have HB1 := Lib.hid hB1
  clear hB1
  refine (s_stmt W1 A1 1 c1 [sp0] rfl 0 (-90) 90 HC1.out.1 HC1.out.2 (by kernel_rfl)).mono ?_
  rintro e w2 ⟨B2, d2, rfl, h2⟩
  clear x0 x1 x2
  have HB1 := Lib.hid (HB1.out.belowS h2.2.2)
  have HC1 := Lib.hid (And.intro (Kd.C_below HC1.out.1 h2.2.2) HC1.out.2)
  have HS2 := Lib.hid (And.intro h2.1 h2.2.1)
  have HW2 := Lib.hid (Below.trans HW1.out (h2.2.2.mono HW1.out.size))
  clear h2
  have x0 := HB1.out.cell (j := 0) rfl
  have x1 := HB1.out.cell (j := 1) rfl
  have x2 := HB1.out.cell (j := 2) rfl
  go_wp2_with fail
  clear x0 x1 x2
  refine (s_disp w2 A1 c1 HC1.out.1 HC1.out.2).mono ?_
  rintro e w3 ⟨A3, c3, rfl, h3⟩
  have HS2 := Lib.hid (And.intro (Kd.C_below HS2.out.1 h3.2.2) HS2.out.2)
  have HW3 := Below.trans HW2.out (h3.2.2.mono HW2.out.size)
  clear HB1 HC1
  go_wp2_with fail
  have hB3 : Blk (w3.alloc (.cells #[.int .i64 3, .slice A3 3 c3, .int .i64 0] 24)) w3.heap.size 24 [.int .i64 3, .slice A3 3 c3, .int .i64 0] := Blk.newA w3 _ _ _ rfl
  have hn3 : Below w3.heap.size w3 (w3.alloc (.cells #[.int .i64 3, .slice A3 3 c3, .int .i64 0] 24)) := (Below.refl _ _).alloc (Nat.le_refl _) _
  have hC3 := Kd.C_below h3.1 hn3
  have hS2 := And.intro (Kd.C_below HS2.out.1 hn3) HS2.out.2
  have HW3 := Lib.hid (Below.trans HW3 (hn3.mono HW3.size))
  clear hn3
  generalize w3.alloc (.cells #[.int .i64 3, .slice A3 3 c3, .int .i64 0] 24) = W3 at *
  generalize w3.heap.size = g3 at *
  have HC := Lib.hid (And.intro hC3 h3.2.1)
  have HS2 := Lib.hid hS2
  have HB := Lib.hid hB3
  have HW := HW3
  clear hC3 h3 hS2 hB3 HW3 HW1 HW2
  refine (s_stmt W3 A3 3 c3 [sp0, sp1, sp2] rfl 0 (-90) 90 HC.out.1 HC.out.2 (by kernel_rfl)).mono ?_
  rintro e w4 ⟨B4, d4, rfl, h4⟩
  have HC := Lib.hid (And.intro (Kd.C_below HC.out.1 h4.2.2) HC.out.2)
  have HB := Lib.hid (HB.out.belowS h4.2.2)
  have HW := Lib.hid (Below.trans HW.out (h4.2.2.mono HW.out.size))
  have HS2 := Lib.hid (And.intro (Kd.C_below HS2.out.1 h4.2.2) HS2.out.2)
  have HS4 := Lib.hid (And.intro h4.1 h4.2.1)
  clear h4
  have x0 := HB.out.cell (j := 0) rfl
  have x1 := HB.out.cell (j := 1) rfl
  have x2 := HB.out.cell (j := 2) rfl
  go_wp2_with fail
  clear x0 x1 x2
  refine (s_stmt w4 A3 3 c3 [sp0, sp1, sp2] rfl 1 30 (-30) HC.out.1 HC.out.2 (by kernel_rfl)).mono ?_
  rintro e w5 ⟨B5, d5, rfl, h5⟩
  have HC := Lib.hid (And.intro (Kd.C_below HC.out.1 h5.2.2) HC.out.2)
  have HB := Lib.hid (HB.out.belowS h5.2.2)
  have HW := Lib.hid (Below.trans HW.out (h5.2.2.mono HW.out.size))
  have HS2 := Lib.hid (And.intro (Kd.C_below HS2.out.1 h5.2.2) HS2.out.2)
  have HS4 := Lib.hid (And.intro (Kd.C_below HS4.out.1 h5.2.2) HS4.out.2)
  have HS5 := Lib.hid (And.intro h5.1 h5.2.1)
  clear h5
  have x0 := HB.out.cell (j := 0) rfl
  have x1 := HB.out.cell (j := 1) rfl
  have x2 := HB.out.cell (j := 2) rfl
  go_wp2_with fail
  clear x0 x1 x2
  refine (s_owed w5 A3 c3 HC.out.1 HC.out.2).mono ?_
  rintro e w6 ⟨B6, d6, rfl, h6⟩
  have HC := Lib.hid (And.intro (Kd.C_below HC.out.1 h6.2.2) HC.out.2)
  have HB := Lib.hid (HB.out.belowS h6.2.2)
  have HW := Lib.hid (Below.trans HW.out (h6.2.2.mono HW.out.size))
  have HS2 := Lib.hid (And.intro (Kd.C_below HS2.out.1 h6.2.2) HS2.out.2)
  have HS4 := Lib.hid (And.intro (Kd.C_below HS4.out.1 h6.2.2) HS4.out.2)
  have HS5 := Lib.hid (And.intro (Kd.C_below HS5.out.1 h6.2.2) HS5.out.2)
  have HS6 := Lib.hid (And.intro h6.1 h6.2.1)
  clear h6
  have x0 := HB.out.cell (j := 0) rfl
  have x1 := HB.out.cell (j := 1) rfl
  have x2 := HB.out.cell (j := 2) rfl
  go_wp2_with fail
  clear x0 x1 x2
  refine (s_disp2 w6 A3 c3 HC.out.1 HC.out.2).mono ?_
  rintro e w7 ⟨rfl, h7⟩
  have HC := Lib.hid (And.intro (Kd.C_below HC.out.1 h7) HC.out.2)
  have HB := Lib.hid (HB.out.belowS h7)
  have HW := Lib.hid (Below.trans HW.out (h7.mono HW.out.size))
  have HS2 := Lib.hid (And.intro (Kd.C_below HS2.out.1 h7) HS2.out.2)
  have HS4 := Lib.hid (And.intro (Kd.C_below HS4.out.1 h7) HS4.out.2)
  have HS5 := Lib.hid (And.intro (Kd.C_below HS5.out.1 h7) HS5.out.2)
  have HS6 := Lib.hid (And.intro (Kd.C_below HS6.out.1 h7) HS6.out.2)
  clear h7
  have x0 := c_old (o := .cells #[.int .i64 0, .slice none 0 0, .int .i64 0] 24) (HB.out.cell (j := 0) rfl)
  have x1 := c_old (o := .cells #[.int .i64 0, .slice none 0 0, .int .i64 0] 24) (HB.out.cell (j := 1) rfl)
  have x2 := c_old (o := .cells #[.int .i64 0, .slice none 0 0, .int .i64 0] 24) (HB.out.cell (j := 2) rfl)
  go_wp2_with fail
  clear x0 x1 x2
  have hn : Below w7.heap.size w7 (w7.alloc (.cells #[.int .i64 0, .slice none 0 0, .int .i64 0] 24)) := (Below.refl _ _).alloc (Nat.le_refl _) _
  have HC := Lib.hid (And.intro (Kd.C_below HC.out.1 hn) HC.out.2)
  have HB := Lib.hid (HB.out.belowS hn)
  have HW := Lib.hid (Below.trans HW.out (hn.mono HW.out.size))
  have HS2 := Lib.hid (And.intro (Kd.C_below HS2.out.1 hn) HS2.out.2)
  have HS4 := Lib.hid (And.intro (Kd.C_below HS4.out.1 hn) HS4.out.2)
  have HS5 := Lib.hid (And.intro (Kd.C_below HS5.out.1 hn) HS5.out.2)
  have HS6 := Lib.hid (And.intro (Kd.C_below HS6.out.1 hn) HS6.out.2)
  clear hn
  generalize w7.alloc (.cells #[.int .i64 0, .slice none 0 0, .int .i64 0] 24) = W7 at *
  refine (s_post2 W7 A3 c3 HC.out.1 HC.out.2).mono ?_
  rintro e w8 ⟨rfl, h8⟩
  have HC := Lib.hid (And.intro (Kd.C_below HC.out.1 h8) HC.out.2)
  have HB := Lib.hid (HB.out.belowS h8)
  have HW := Lib.hid (Below.trans HW.out (h8.mono HW.out.size))
  have HS2 := Lib.hid (And.intro (Kd.C_below HS2.out.1 h8) HS2.out.2)
  have HS4 := Lib.hid (And.intro (Kd.C_below HS4.out.1 h8) HS4.out.2)
  have HS5 := Lib.hid (And.intro (Kd.C_below HS5.out.1 h8) HS5.out.2)
  have HS6 := Lib.hid (And.intro (Kd.C_below HS6.out.1 h8) HS6.out.2)
  clear h8
  have x0 := c_old (o := .cells #[.int .i64 0, .slice none 0 0, .int .i64 0] 24) (HB.out.cell (j := 0) rfl)
  have x1 := c_old (o := .cells #[.int .i64 0, .slice none 0 0, .int .i64 0] 24) (HB.out.cell (j := 1) rfl)
  have x2 := c_old (o := .cells #[.int .i64 0, .slice none 0 0, .int .i64 0] 24) (HB.out.cell (j := 2) rfl)
  go_wp2_with fail
  clear x0 x1 x2
  have hn : Below w8.heap.size w8 (w8.alloc (.cells #[.int .i64 0, .slice none 0 0, .int .i64 0] 24)) := (Below.refl _ _).alloc (Nat.le_refl _) _
  have HC := Lib.hid (And.intro (Kd.C_below HC.out.1 hn) HC.out.2)
  have HB := Lib.hid (HB.out.belowS hn)
  have HW := Lib.hid (Below.trans HW.out (hn.mono HW.out.size))
  have HS2 := Lib.hid (And.intro (Kd.C_below HS2.out.1 hn) HS2.out.2)
  have HS4 := Lib.hid (And.intro (Kd.C_below HS4.out.1 hn) HS4.out.2)
  have HS5 := Lib.hid (And.intro (Kd.C_below HS5.out.1 hn) HS5.out.2)
  have HS6 := Lib.hid (And.intro (Kd.C_below HS6.out.1 hn) HS6.out.2)
  clear hn
  generalize w8.alloc (.cells #[.int .i64 0, .slice none 0 0, .int .i64 0] 24) = W8 at *
  refine (s_close W8 A3 c3 HC.out.1 HC.out.2).mono ?_
  rintro e w9 ⟨A9, c9, rfl, h9⟩
  have HC := Lib.hid (And.intro (Kd.C_below HC.out.1 h9.2.2) HC.out.2)
  have HB := Lib.hid (HB.out.belowS h9.2.2)
  have HW := Lib.hid (Below.trans HW.out (h9.2.2.mono HW.out.size))
  have HS2 := Lib.hid (And.intro (Kd.C_below HS2.out.1 h9.2.2) HS2.out.2)
  have HS4 := Lib.hid (And.intro (Kd.C_below HS4.out.1 h9.2.2) HS4.out.2)
  have HS5 := Lib.hid (And.intro (Kd.C_below HS5.out.1 h9.2.2) HS5.out.2)
  have HS6 := Lib.hid (And.intro (Kd.C_below HS6.out.1 h9.2.2) HS6.out.2)
  have HC9 := Lib.hid (And.intro h9.1 h9.2.1)
  clear h9
  have x0 := c_old (o := .cells #[.int .i64 3, .slice A9 3 c9, .int .i64 1] 24) (HB.out.cell (j := 0) rfl)
  have x1 := c_old (o := .cells #[.int .i64 3, .slice A9 3 c9, .int .i64 1] 24) (HB.out.cell (j := 1) rfl)
  have x2 := c_old (o := .cells #[.int .i64 3, .slice A9 3 c9, .int .i64 1] 24) (HB.out.cell (j := 2) rfl)
  go_wp2_with fail
  clear x0 x1 x2
  have hn : Below w9.heap.size w9 (w9.alloc (.cells #[.int .i64 3, .slice A9 3 c9, .int .i64 1] 24)) := (Below.refl _ _).alloc (Nat.le_refl _) _
  have HB9 := Lib.hid (Blk.newA w9 24 #[.int .i64 3, .slice A9 3 c9, .int .i64 1] [.int .i64 3, .slice A9 3 c9, .int .i64 1] rfl)
  have HC := Lib.hid (And.intro (Kd.C_below HC.out.1 hn) HC.out.2)
  have HB := Lib.hid (HB.out.belowS hn)
  have HW := Lib.hid (Below.trans HW.out (hn.mono HW.out.size))
  have HS2 := Lib.hid (And.intro (Kd.C_below HS2.out.1 hn) HS2.out.2)
  have HS4 := Lib.hid (And.intro (Kd.C_below HS4.out.1 hn) HS4.out.2)
  have HS5 := Lib.hid (And.intro (Kd.C_below HS5.out.1 hn) HS5.out.2)
  have HS6 := Lib.hid (And.intro (Kd.C_below HS6.out.1 hn) HS6.out.2)
  have HC9 := Lib.hid (And.intro (Kd.C_below HC9.out.1 hn) HC9.out.2)
  clear hn
  generalize w9.alloc (.cells #[.int .i64 3, .slice A9 3 c9, .int .i64 1] 24) = W9 at *
  generalize w9.heap.size = g9 at *
  refine (s_bal W9 A3 c3 HC.out.1 HC.out.2).mono ?_
  rintro e w10 ⟨rfl, h10⟩
  have HC := Lib.hid (And.intro (Kd.C_below HC.out.1 h10) HC.out.2)
  have HB := Lib.hid (HB.out.belowS h10)
  have HW := Lib.hid (Below.trans HW.out (h10.mono HW.out.size))
  have HS2 := Lib.hid (And.intro (Kd.C_below HS2.out.1 h10) HS2.out.2)
  have HS4 := Lib.hid (And.intro (Kd.C_below HS4.out.1 h10) HS4.out.2)
  have HS5 := Lib.hid (And.intro (Kd.C_below HS5.out.1 h10) HS5.out.2)
  have HS6 := Lib.hid (And.intro (Kd.C_below HS6.out.1 h10) HS6.out.2)
  have HC9 := Lib.hid (And.intro (Kd.C_below HC9.out.1 h10) HC9.out.2)
  have HB9 := Lib.hid (HB9.out.belowS h10)
  clear h10
  have x0 := HB.out.cell (j := 0) rfl
  have x1 := HB.out.cell (j := 1) rfl
  have x2 := HB.out.cell (j := 2) rfl
  have y0 := HB9.out.cell (j := 0) rfl
  have y1 := HB9.out.cell (j := 1) rfl
  have y2 := HB9.out.cell (j := 2) rfl
  go_wp2_with fail
  clear x0 x1 x2 y0 y1 y2
  have hn : Below w10.heap.size w10 (w10.alloc (.cells #[.int .i64 (-90), .int .i64 90, .int .i64 0] 3)) := (Below.refl _ _).alloc (Nat.le_refl _) _
  have hl := lit3 w10 (-90) 90 0
  have HC := Lib.hid (And.intro (Kd.C_below HC.out.1 hn) HC.out.2)
  have HS4 := Lib.hid (And.intro (Kd.C_below HS4.out.1 hn) HS4.out.2)
  have HS5 := Lib.hid (And.intro (Kd.C_below HS5.out.1 hn) HS5.out.2)
  have HS6 := Lib.hid (And.intro (Kd.C_below HS6.out.1 hn) HS6.out.2)
  have HC9 := Lib.hid (And.intro (Kd.C_below HC9.out.1 hn) HC9.out.2)
  have HS2 := Lib.hid (And.intro (Kd.C_below HS2.out.1 hn) HS2.out.2)
  have HB := Lib.hid (HB.out.belowS hn)
  have HB9 := Lib.hid (HB9.out.belowS hn)
  have HW := Lib.hid (Below.trans HW.out (hn.mono HW.out.size))
  clear hn
  generalize w10.alloc (.cells #[.int .i64 (-90), .int .i64 90, .int .i64 0] 3) = V1 at *
  generalize w10.heap.size = l1 at *
  refine (s_ints V1 B2 (some ⟨l1, 0, none⟩) d2 3 (-90) 90 0 HS2.out.1 hl HS2.out.2 (Nat.le_refl _)).mono ?_
  rintro e v1 ⟨rfl, hd⟩
  clear hl
  have HC := Lib.hid (And.intro (Kd.C_below HC.out.1 hd.below) HC.out.2)
  have HS2 := Lib.hid (And.intro (Kd.C_below HS2.out.1 hd.below) HS2.out.2)
  have HS4 := Lib.hid (And.intro (Kd.C_below HS4.out.1 hd.below) HS4.out.2)
  have HS5 := Lib.hid (And.intro (Kd.C_below HS5.out.1 hd.below) HS5.out.2)
  have HS6 := Lib.hid (And.intro (Kd.C_below HS6.out.1 hd.below) HS6.out.2)
  have HC9 := Lib.hid (And.intro (Kd.C_below HC9.out.1 hd.below) HC9.out.2)
  have HB := Lib.hid (HB.out.belowS hd.below)
  have HB9 := Lib.hid (HB9.out.belowS hd.below)
  have HW := Lib.hid (Below.trans HW.out (hd.below.mono HW.out.size))
  clear hd
  go_wp2_with fail
  have hn : Below v1.heap.size v1 (v1.alloc (.cells #[.int .i64 (-90), .int .i64 90, .int .i64 0] 3)) := (Below.refl _ _).alloc (Nat.le_refl _) _
  have hl := lit3 v1 (-90) 90 0
  have HC := Lib.hid (And.intro (Kd.C_below HC.out.1 hn) HC.out.2)
  have HS2 := Lib.hid (And.intro (Kd.C_below HS2.out.1 hn) HS2.out.2)
  have HS5 := Lib.hid (And.intro (Kd.C_below HS5.out.1 hn) HS5.out.2)
  have HS6 := Lib.hid (And.intro (Kd.C_below HS6.out.1 hn) HS6.out.2)
  have HC9 := Lib.hid (And.intro (Kd.C_below HC9.out.1 hn) HC9.out.2)
  have HS4 := Lib.hid (And.intro (Kd.C_below HS4.out.1 hn) HS4.out.2)
  have HB := Lib.hid (HB.out.belowS hn)
  have HB9 := Lib.hid (HB9.out.belowS hn)
  have HW := Lib.hid (Below.trans HW.out (hn.mono HW.out.size))
  clear hn
  generalize v1.alloc (.cells #[.int .i64 (-90), .int .i64 90, .int .i64 0] 3) = V2 at *
  generalize v1.heap.size = l2 at *
  refine (s_ints V2 B4 (some ⟨l2, 0, none⟩) d4 3 (-90) 90 0 HS4.out.1 hl HS4.out.2 (Nat.le_refl _)).mono ?_
  rintro e v2 ⟨rfl, hd⟩
  clear hl
  have HC := Lib.hid (And.intro (Kd.C_below HC.out.1 hd.below) HC.out.2)
  have HS2 := Lib.hid (And.intro (Kd.C_below HS2.out.1 hd.below) HS2.out.2)
  have HS4 := Lib.hid (And.intro (Kd.C_below HS4.out.1 hd.below) HS4.out.2)
  have HS5 := Lib.hid (And.intro (Kd.C_below HS5.out.1 hd.below) HS5.out.2)
  have HS6 := Lib.hid (And.intro (Kd.C_below HS6.out.1 hd.below) HS6.out.2)
  have HC9 := Lib.hid (And.intro (Kd.C_below HC9.out.1 hd.below) HC9.out.2)
  have HB := Lib.hid (HB.out.belowS hd.below)
  have HB9 := Lib.hid (HB9.out.belowS hd.below)
  have HW := Lib.hid (Below.trans HW.out (hd.below.mono HW.out.size))
  clear hd
  go_wp2_with fail
  have hn : Below v2.heap.size v2 (v2.alloc (.cells #[.int .i64 30, .int .i64 (-30), .int .i64 0] 3)) := (Below.refl _ _).alloc (Nat.le_refl _) _
  have hl := lit3 v2 30 (-30) 0
  have HC := Lib.hid (And.intro (Kd.C_below HC.out.1 hn) HC.out.2)
  have HS2 := Lib.hid (And.intro (Kd.C_below HS2.out.1 hn) HS2.out.2)
  have HS4 := Lib.hid (And.intro (Kd.C_below HS4.out.1 hn) HS4.out.2)
  have HS6 := Lib.hid (And.intro (Kd.C_below HS6.out.1 hn) HS6.out.2)
  have HC9 := Lib.hid (And.intro (Kd.C_below HC9.out.1 hn) HC9.out.2)
  have HS5 := Lib.hid (And.intro (Kd.C_below HS5.out.1 hn) HS5.out.2)
  have HB := Lib.hid (HB.out.belowS hn)
  have HB9 := Lib.hid (HB9.out.belowS hn)
  have HW := Lib.hid (Below.trans HW.out (hn.mono HW.out.size))
  clear hn
  generalize v2.alloc (.cells #[.int .i64 30, .int .i64 (-30), .int .i64 0] 3) = V3 at *
  generalize v2.heap.size = l3 at *
  refine (s_ints V3 B5 (some ⟨l3, 0, none⟩) d5 3 30 (-30) 0 HS5.out.1 hl HS5.out.2 (Nat.le_refl _)).mono ?_
  rintro e v3 ⟨rfl, hd⟩
  clear hl
  have HC := Lib.hid (And.intro (Kd.C_below HC.out.1 hd.below) HC.out.2)
  have HS2 := Lib.hid (And.intro (Kd.C_below HS2.out.1 hd.below) HS2.out.2)
  have HS4 := Lib.hid (And.intro (Kd.C_below HS4.out.1 hd.below) HS4.out.2)
  have HS5 := Lib.hid (And.intro (Kd.C_below HS5.out.1 hd.below) HS5.out.2)
  have HS6 := Lib.hid (And.intro (Kd.C_below HS6.out.1 hd.below) HS6.out.2)
  have HC9 := Lib.hid (And.intro (Kd.C_below HC9.out.1 hd.below) HC9.out.2)
  have HB := Lib.hid (HB.out.belowS hd.below)
  have HB9 := Lib.hid (HB9.out.belowS hd.below)
  have HW := Lib.hid (Below.trans HW.out (hd.below.mono HW.out.size))
  clear hd
  go_wp2_with fail
  have hn : Below v3.heap.size v3 (v3.alloc (.cells #[.int .i64 (-60), .int .i64 60, .int .i64 0] 3)) := (Below.refl _ _).alloc (Nat.le_refl _) _
  have hl := lit3 v3 (-60) 60 0
  have HC := Lib.hid (And.intro (Kd.C_below HC.out.1 hn) HC.out.2)
  have HS2 := Lib.hid (And.intro (Kd.C_below HS2.out.1 hn) HS2.out.2)
  have HS4 := Lib.hid (And.intro (Kd.C_below HS4.out.1 hn) HS4.out.2)
  have HS5 := Lib.hid (And.intro (Kd.C_below HS5.out.1 hn) HS5.out.2)
  have HC9 := Lib.hid (And.intro (Kd.C_below HC9.out.1 hn) HC9.out.2)
  have HS6 := Lib.hid (And.intro (Kd.C_below HS6.out.1 hn) HS6.out.2)
  have HB := Lib.hid (HB.out.belowS hn)
  have HB9 := Lib.hid (HB9.out.belowS hn)
  have HW := Lib.hid (Below.trans HW.out (hn.mono HW.out.size))
  clear hn
  generalize v3.alloc (.cells #[.int .i64 (-60), .int .i64 60, .int .i64 0] 3) = V4 at *
  generalize v3.heap.size = l4 at *
  refine (s_ints V4 B6 (some ⟨l4, 0, none⟩) d6 3 (-60) 60 0 HS6.out.1 hl HS6.out.2 (Nat.le_refl _)).mono ?_
  rintro e v4 ⟨rfl, hd⟩
  clear hl
  have HC := Lib.hid (And.intro (Kd.C_below HC.out.1 hd.below) HC.out.2)
  have HS2 := Lib.hid (And.intro (Kd.C_below HS2.out.1 hd.below) HS2.out.2)
  have HS4 := Lib.hid (And.intro (Kd.C_below HS4.out.1 hd.below) HS4.out.2)
  have HS5 := Lib.hid (And.intro (Kd.C_below HS5.out.1 hd.below) HS5.out.2)
  have HS6 := Lib.hid (And.intro (Kd.C_below HS6.out.1 hd.below) HS6.out.2)
  have HC9 := Lib.hid (And.intro (Kd.C_below HC9.out.1 hd.below) HC9.out.2)
  have HB := Lib.hid (HB.out.belowS hd.below)
  have HB9 := Lib.hid (HB9.out.belowS hd.below)
  have HW := Lib.hid (Below.trans HW.out (hd.below.mono HW.out.size))
  clear hd
  have y0 := HB9.out.cell (j := 0) rfl
  have y1 := HB9.out.cell (j := 1) rfl
  have y2 := HB9.out.cell (j := 2) rfl
  go_wp2_with fail
  clear y0 y1 y2
  refine (s_valid v4 A9 c9 HC9.out.1 HC9.out.2).mono ?_
  rintro e v5 ⟨rfl, h5⟩
  have HC := Lib.hid (And.intro (Kd.C_below HC.out.1 h5) HC.out.2)
  have HB := Lib.hid (HB.out.belowS h5)
  have HW := Lib.hid (Below.trans HW.out (h5.mono HW.out.size))
  clear h5
  go_wp2_with fail
  refine (s_valid0 v5).mono ?_
  rintro e v6 ⟨rfl, h6⟩
  have HC := Lib.hid (And.intro (Kd.C_below HC.out.1 h6) HC.out.2)
  have HB := Lib.hid (HB.out.belowS h6)
  have HW := Lib.hid (Below.trans HW.out (h6.mono HW.out.size))
  clear h6
  have x0 := HB.out.cell (j := 0) rfl
  have x1 := HB.out.cell (j := 1) rfl
  have x2 := HB.out.cell (j := 2) rfl
  obtain ⟨ad, rfl, z0, z1, z2, z3, z4, z5, z6⟩ := at_T27 HC.out.1 1 (by omega) (by omega)
  have hz : rd_T27 [sp0, sp1, sp2] 1 = sp1 := rfl
  rw [hz] at z0 z1 z2 z3 z4 z5 z6
  unfold sp1 at z0 z1 z2 z3 z4 z5 z6
  rw [show (1 : Int).toNat * 7 = 7 from rfl, show ad.add 7 = ⟨ad.block, ad.off + 7, none⟩ from by simp [Addr.add]] at z0 z1 z2 z3 z4 z5 z6
  dsimp only at z0 z1 z2 z3 z4 z5 z6
  clear hz
  go_wp2_with fail
  go_ret
  exact ⟨rfl, HW.out⟩
def airchecklaw24_sane.f : Option Bool := some true
theorem airchecklaw24_sane.calls (r : Bool) (w : World) (h : airchecklaw24_sane.f = some r) : Calls Try.prog 7 #[] w fun e w' => e = .returned (.bool r) ∧ Below w.heap.size w w' := by
  obtain rfl := Option.some.inj h
  exact sane_walk w
end Go.Proofs.Ytooogaogbffjfaa.Ext
end
section
/-
  The contracts of package book and of its reference, in the form in which walks by hand use them.
-/
set_option linter.unusedVariables false
set_option linter.unusedSimpArgs false
namespace Go.Proofs.Ytooogaogbffjfaa.Ext
open Go.RowKit Go.Shelf Go.Proofs.YtooogaogbffjfaaW.PrintWords Go.Proofs.YtooogaogbffjfaaW.PrintLast Go.Proofs.YtooogaogbffjfaaW.PrintMore Go.Proofs.Ytooogaogbffjfaa.PK Go.Proofs.Ytooogaogbffjfaa.Bk Go.Proofs.Ytooogaogbffjfaa.PB Go.Proofs.Ytooogaogbffjfaa.Pure
theorem bDisp (acc clo : Int) (A : Option Addr) (n c : Nat) (ps : List S27) (hl : ps.length = n) (i day amount : Int) (r : Int × List S27 × Int × Int) (hr : dispF acc ps clo i day amount = r) (w : World) (hC : Kd.C k27 w A n ps) (hc : n ≤ c) (hn : n ≤ 999990) :
    Calls Try.prog 15 #[.agg #[.int .i64 acc, .slice A n c, .int .i64 clo], .int .i64 i, .int .i64 day, .int .i64 amount] w fun e w' => ∃ (A' : Option Addr) (c' n' : Nat), r.2.1.length = n' ∧ n' ≤ c' ∧ e = .returned (.tuple #[.agg #[.int .i64 r.1, .slice A' n' c', .int .i64 r.2.2.1], .int .i64 r.2.2.2]) ∧ Kd.R k27 27 w' w.heap.size (fun _ => True) (.slice A' n' c') r.2.1 ∧ Below w.heap.size w w' := by
  subst hl
  refine (book_Dispute.calls acc A c ps clo i day amount r.1 r.2.1 r.2.2.1 r.2.2.2 w hC hc (by unfold book_Dispute.f; rw [if_pos (show ps.length ≤ 1000000 by omega), hr])).mono ?_
  rintro e w' ⟨v, he, hR, hb⟩
  obtain ⟨A', c', rfl⟩ := Kd.R_slice hR
  exact ⟨A', c', _, rfl, (Kd.R_reads' hR).2.1, he, hR, hb⟩
theorem bStmt (acc clo : Int) (A : Option Addr) (n c : Nat) (ps : List S27) (hl : ps.length = n) (m : Int) (r : List Int × Int) (hr : stmtF acc ps clo m = r) (w : World) (hC : Kd.C k27 w A n ps) (hc : n ≤ c) (hn : n ≤ 999990) :
    Calls Try.prog 19 #[.agg #[.int .i64 acc, .slice A n c, .int .i64 clo], .int .i64 m] w fun e w' => ∃ (A' : Option Addr) (c' n' : Nat), r.1.length = n' ∧ n' ≤ c' ∧ e = .returned (.tuple #[.slice A' n' c', .int .i64 r.2]) ∧ Kd.R (Kd.int .i64) 3 w' w.heap.size (fun _ => True) (.slice A' n' c') r.1 ∧ Below w.heap.size w w' := by
  subst hl
  refine (book_Statement.calls acc A c ps clo m r.1 r.2 w hC hc (by unfold book_Statement.f; rw [if_pos (show ps.length ≤ 1000000 by omega), hr])).mono ?_
  rintro e w' ⟨v, he, hR, hb⟩
  obtain ⟨A', c', rfl⟩ := Kd.R_slice hR
  exact ⟨A', c', _, rfl, (Kd.R_reads' hR).2.1, he, hR, hb⟩
theorem bOwed (acc clo : Int) (A : Option Addr) (n c : Nat) (ps : List S27) (hl : ps.length = n) (m : Int) (r : List Int × Int) (hr : owesF acc ps clo m = r) (w : World) (hC : Kd.C k27 w A n ps) (hc : n ≤ c) (hn : n ≤ 999990) :
    Calls Try.prog 24 #[.agg #[.int .i64 acc, .slice A n c, .int .i64 clo], .int .i64 m] w fun e w' => ∃ (A' : Option Addr) (c' n' : Nat), r.1.length = n' ∧ n' ≤ c' ∧ e = .returned (.tuple #[.slice A' n' c', .int .i64 r.2]) ∧ Kd.R (Kd.int .i64) 3 w' w.heap.size (fun _ => True) (.slice A' n' c') r.1 ∧ Below w.heap.size w w' := by
  subst hl
  refine (book_Owed.calls acc A c ps clo m r.1 r.2 w hC hc (by unfold book_Owed.f; rw [if_pos (show ps.length ≤ 1000000 by omega), hr])).mono ?_
  rintro e w' ⟨v, he, hR, hb⟩
  obtain ⟨A', c', rfl⟩ := Kd.R_slice hR
  exact ⟨A', c', _, rfl, (Kd.R_reads' hR).2.1, he, hR, hb⟩
end Go.Proofs.Ytooogaogbffjfaa.Ext
end
