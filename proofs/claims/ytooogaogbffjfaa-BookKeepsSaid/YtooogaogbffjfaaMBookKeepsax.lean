import Derived.Test.YtooogaogbffjfaaMBookKeepsaw
/-
  Texts of this claim, one behind the other: what they prove stands above each.
-/
section
/-
  The book that integers determine: what Made returns.
-/
set_option linter.unusedVariables false
set_option linter.unusedSimpArgs false
namespace Go.Proofs.Ytooogaogbffjfaa.Bk
open Go.RowKit Go.Proofs.YtooogaogbffjfaaW.PrintWords Go.Proofs.YtooogaogbffjfaaW.PrintLast Go.Proofs.YtooogaogbffjfaaW.PrintMore Go.Proofs.Ytooogaogbffjfaa.Ext Go.Proofs.Ytooogaogbffjfaa.PB
/-- an integer as an index -/
def pk (c n : Int) : Int := (if c < 0 then -(c + 1) else c) % n
def I64 (c : Int) : Prop := -9223372036854775808 ≤ c ∧ c ≤ 9223372036854775807
theorem pk_bound (c n : Int) (hn : 0 < n) : 0 ≤ pk c n ∧ pk c n < n := ⟨Int.emod_nonneg _ (by omega), Int.emod_lt_of_pos _ hn⟩
theorem pick_is (c n : Int) (hc : I64 c) (hn : 0 < n) : aircheckref24_pick.f c n = some (pk c n) := by
  unfold I64 at hc
  unfold aircheckref24_pick.f pk
  by_cases h : c < 0
  · rw [if_pos h, if_neg (by omega), if_pos h, show wrap64 (c + 1) = c + 1 by unfold wrap64; omega, show wrap64 (-(c + 1)) = -(c + 1) by unfold wrap64; omega, Int.tmod_eq_emod_of_nonneg (by omega)]
  · rw [if_neg h, if_neg (by omega), if_neg h, Int.tmod_eq_emod_of_nonneg (by omega)]
/-- a state of Made: postings, closed months, day -/
abbrev MS := List S27 × Int × Int
def dayM (d : Int) (x : S48) : Int := if d + pk x.f1 20 < 359 then d + pk x.f1 20 else 359
def postM (acc d : Int) (x : S48) : S27 := ⟨1 + pk (Int.tdiv x.f4 7) 2, d, pk x.f2 acc, (pk x.f2 acc + 1 + pk x.f3 (acc - 1)) % acc, 1 + pk x.f4 1000, pk x.f4 6, -1⟩
def min2M (c : Int) : Int := if 30 * c < 359 then 30 * c else 359
def day2M (d c : Int) : Int := if d < min2M c then min2M c else d
def stepM (acc : Int) (s : MS) (x : S48) : MS :=
  if pk x.f0 6 = 4 then
    (if (dispF acc s.1 s.2.1 (pk x.f3 ((s.1.length : Int) + 1)) (dayM s.2.2 x) (pk x.f4 1000)).2.2.2 = 0 then ((dispF acc s.1 s.2.1 (pk x.f3 ((s.1.length : Int) + 1)) (dayM s.2.2 x) (pk x.f4 1000)).2.1, (dispF acc s.1 s.2.1 (pk x.f3 ((s.1.length : Int) + 1)) (dayM s.2.2 x) (pk x.f4 1000)).2.2.1, dayM s.2.2 x) else (s.1, s.2.1, dayM s.2.2 x))
  else if pk x.f0 6 = 5 then
    (if (closeF acc s.1 s.2.1 s.2.1).2.2.2 = 0 then ((closeF acc s.1 s.2.1 s.2.1).2.1, (closeF acc s.1 s.2.1 s.2.1).2.2.1, day2M (dayM s.2.2 x) (closeF acc s.1 s.2.1 s.2.1).2.2.1) else (s.1, s.2.1, day2M (dayM s.2.2 x) (closeF acc s.1 s.2.1 s.2.1).2.2.1))
  else
    (if (postF acc s.1 s.2.1 (postM acc (dayM s.2.2 x) x)).2.2.2.2 = 0 then ((postF acc s.1 s.2.1 (postM acc (dayM s.2.2 x) x)).2.1, (postF acc s.1 s.2.1 (postM acc (dayM s.2.2 x) x)).2.2.1, dayM s.2.2 x) else (s.1, s.2.1, dayM s.2.2 x))
def runM (acc : Int) (l : List S48) : MS := l.foldl (stepM acc) ([], 0, 0)
def accM (accounts : Int) : Int := 2 + pk accounts 15
theorem accM_bound (a : Int) : 2 ≤ accM a ∧ accM a ≤ 16 := by unfold accM; have := pk_bound a 15 (by omega); omega
theorem runM_snoc (acc : Int) (l : List S48) (x : S48) : runM acc (l ++ [x]) = stepM acc (runM acc l) x := by simp [runM]
/-- what holds of a state -/
def MOk (acc : Int) (n : Nat) (s : MS) : Prop := validB acc s.1 s.2.1 = true ∧ s.1.length ≤ 2 * n ∧ 0 ≤ s.2.2 ∧ s.2.2 ≤ 359
theorem valid_post {acc clo : Int} {ps : List S27} {p : S27} (h : (validB acc ps clo && postB acc clo ps p) = true) : validB acc (ps ++ [p]) clo = true := by
  unfold postB at h
  rw [Bool.and_eq_true, Bool.and_eq_true] at h
  rw [valid_snoc, h.1, h.2.2]; rfl
theorem post_cases (acc clo : Int) (ps : List S27) (p : S27) : ((validB acc ps clo && postB acc clo ps p) = true ∧ postF acc ps clo p = (acc, ps ++ [p], clo, (ps.length : Int), 0)) ∨ ((validB acc ps clo && postB acc clo ps p) = false ∧ postF acc ps clo p = (0, [], 0, 0, 240)) := by
  unfold postF
  cases h : (validB acc ps clo && postB acc clo ps p) with
  | true => exact .inl ⟨rfl, rfl⟩
  | false => exact .inr ⟨rfl, rfl⟩
theorem close_cases (acc clo : Int) (ps : List S27) (m : Int) : (validB acc ps clo = true ∧ m = clo ∧ (0 ≤ clo ∧ clo ≤ 11) ∧ closeF acc ps clo m = (acc, ps, clo + 1, 0)) ∨ (¬ (validB acc ps clo = true ∧ m = clo ∧ 0 ≤ clo ∧ clo ≤ 11) ∧ closeF acc ps clo m = errB) := by
  unfold closeF
  by_cases h : validB acc ps clo = true ∧ m = clo ∧ 0 ≤ clo ∧ clo ≤ 11
  · exact .inl ⟨h.1, h.2.1, h.2.2, by rw [h.1, decide_eq_true h.2.1, decide_eq_true h.2.2]; rfl⟩
  · refine .inr ⟨h, if_neg fun h2 => h ?_⟩
    rw [Bool.and_eq_true, Bool.and_eq_true] at h2
    exact ⟨h2.1.1, of_decide_eq_true h2.1.2, of_decide_eq_true h2.2⟩
/-- what a dispute comes to -/
inductive DispR (acc : Int) (ps : List S27) (clo i day amount : Int) : Int × List S27 × Int × Int → Prop
  | zero (h : validB acc ps clo = true) (hi : 0 ≤ i ∧ i < (ps.length : Int)) (ha : amount = 0) (h1 : postB acc clo ps (backP (rd_T27 ps i) i.toNat day) = true) : DispR acc ps clo i day amount (acc, ps ++ [backP (rd_T27 ps i) i.toNat day], clo, 0)
  | more (h : validB acc ps clo = true) (hi : 0 ≤ i ∧ i < (ps.length : Int)) (ha : 0 < amount ∧ amount ≤ 1000000000000) (h1 : postB acc clo ps (backP (rd_T27 ps i) i.toNat day) = true) (h2 : postB acc clo (ps ++ [backP (rd_T27 ps i) i.toNat day]) (newP (rd_T27 ps i) day amount) = true) : DispR acc ps clo i day amount (acc, ps ++ [backP (rd_T27 ps i) i.toNat day] ++ [newP (rd_T27 ps i) day amount], clo, 0)
  | err (h : ¬ (validB acc ps clo = true ∧ (0 ≤ i ∧ i < (ps.length : Int)) ∧ (0 ≤ amount ∧ amount ≤ 1000000000000) ∧ postB acc clo ps (backP (rd_T27 ps i) i.toNat day) = true ∧ (0 < amount → postB acc clo (ps ++ [backP (rd_T27 ps i) i.toNat day]) (newP (rd_T27 ps i) day amount) = true))) : DispR acc ps clo i day amount errB
theorem disp_cases (acc clo : Int) (ps : List S27) (i day amount : Int) : DispR acc ps clo i day amount (dispF acc ps clo i day amount) := by
  unfold dispF
  by_cases h : validB acc ps clo = true ∧ (0 ≤ i ∧ i < (ps.length : Int)) ∧ (0 ≤ amount ∧ amount ≤ 1000000000000) ∧ postB acc clo ps (backP (rd_T27 ps i) i.toNat day) = true
  · obtain ⟨h1, h2, h3, h4⟩ := h
    rw [h1, decide_eq_true h2, decide_eq_true h3, h4]
    simp only [Bool.and_self, if_true]
    by_cases ha : 0 < amount
    · rw [if_pos ha]
      cases h5 : postB acc clo (ps ++ [backP (rd_T27 ps i) i.toNat day]) (newP (rd_T27 ps i) day amount) with
      | true => rw [if_pos rfl]; exact .more h1 h2 ⟨ha, h3.2⟩ h4 h5
      | false => rw [if_neg (by decide)]; exact .err fun h => by have := h.2.2.2.2 ha; rw [h5] at this; cases this
    · rw [if_neg ha]; exact .zero h1 h2 (by omega) h4
  · rw [if_neg fun h2 => h ?_]
    · exact .err fun h2 => h ⟨h2.1, h2.2.1, h2.2.2.1, h2.2.2.2.1⟩
    · rw [Bool.and_eq_true, Bool.and_eq_true, Bool.and_eq_true] at h2
      exact ⟨h2.1.1.1, of_decide_eq_true h2.1.1.2, of_decide_eq_true h2.1.2, h2.2⟩
theorem disp_valid {acc clo : Int} {ps : List S27} {i day amount : Int} {r : Int × List S27 × Int × Int} (h : DispR acc ps clo i day amount r) (h0 : r.2.2.2 = 0) : r.1 = acc ∧ validB acc r.2.1 r.2.2.1 = true ∧ r.2.1.length ≤ ps.length + 2 ∧ r.2.2.1 = clo := by
  cases h with
  | zero h hi ha h1 => exact ⟨rfl, valid_post (by rw [h, h1]; rfl), by simp, rfl⟩
  | more h hi ha h1 h2 => exact ⟨rfl, valid_post (by rw [valid_post (by rw [h, h1]; rfl), h2]; rfl), by simp, rfl⟩
  | err h => exact absurd h0 (by decide)
theorem dayM_bound (d : Int) (x : S48) (h : 0 ≤ d) : 0 ≤ dayM d x ∧ dayM d x ≤ 359 := by
  have := pk_bound x.f1 20 (by omega)
  unfold dayM
  split <;> omega
theorem day2M_bound (d c : Int) (h : 0 ≤ d ∧ d ≤ 359) (hc : 0 ≤ c) : 0 ≤ day2M d c ∧ day2M d c ≤ 359 := by
  unfold day2M min2M
  split <;> split <;> omega
theorem step_ok (acc : Int) (n : Nat) (s : MS) (x : S48) (h : MOk acc n s) : MOk acc (n + 1) (stepM acc s x) := by
  obtain ⟨hv, hl, hd⟩ := h
  have h1 := dayM_bound s.2.2 x hd.1
  unfold stepM
  by_cases e4 : pk x.f0 6 = 4
  · rw [if_pos e4]
    have hd := disp_cases acc s.2.1 s.1 (pk x.f3 ((s.1.length : Int) + 1)) (dayM s.2.2 x) (pk x.f4 1000)
    generalize dispF acc s.1 s.2.1 (pk x.f3 ((s.1.length : Int) + 1)) (dayM s.2.2 x) (pk x.f4 1000) = r at *
    by_cases e : r.2.2.2 = 0
    · rw [if_pos e]
      have := disp_valid hd e
      exact ⟨this.2.1, by have := this.2.2.1; show r.2.1.length ≤ _; omega, h1⟩
    · rw [if_neg e]
      exact ⟨hv, by show s.1.length ≤ _; omega, h1⟩
  · rw [if_neg e4]
    by_cases e5 : pk x.f0 6 = 5
    · rw [if_pos e5]
      rcases close_cases acc s.2.1 s.1 s.2.1 with ⟨_, _, hc, e⟩ | ⟨_, e⟩
      · rw [e]
        refine ⟨?_, by show s.1.length ≤ _; omega, day2M_bound _ _ h1 (by show 0 ≤ s.2.1 + 1; omega)⟩
        show validB acc s.1 (s.2.1 + 1) = true
        unfold validB at hv ⊢
        rw [Bool.and_eq_true] at hv
        rw [hv.1, Bool.true_and]
        have := hv.2
        unfold inB at this ⊢
        have := of_decide_eq_true this
        exact decide_eq_true ⟨this.1, by omega⟩
      · rw [e]
        exact ⟨hv, by show s.1.length ≤ _; omega, day2M_bound _ _ h1 (Int.le_refl _)⟩
    · rw [if_neg e5]
      rcases post_cases acc s.2.1 s.1 (postM acc (dayM s.2.2 x) x) with ⟨hp, e⟩ | ⟨_, e⟩
      · rw [e]
        exact ⟨valid_post hp, by show (s.1 ++ [_]).length ≤ _; simp; omega, h1⟩
      · rw [e]
        exact ⟨hv, by show s.1.length ≤ _; omega, h1⟩
theorem start_ok (acc : Int) (ha : 2 ≤ acc ∧ acc ≤ 16) : MOk acc 0 ([], 0, 0) := by
  refine ⟨?_, by simp, by decide, by decide⟩
  unfold validB inB okAll
  exact decide_eq_true ⟨ha, by decide⟩
theorem run_ok (acc : Int) (ha : 2 ≤ acc ∧ acc ≤ 16) (l : List S48) : MOk acc l.length (runM acc l) := by
  generalize hm : l.length = m
  induction m generalizing l with
  | zero =>
    have : l = [] := List.eq_nil_of_length_eq_zero hm
    subst this
    exact start_ok acc ha
  | succ m ih =>
    rcases List.eq_nil_or_concat l with rfl | ⟨l, x, rfl⟩
    · simp at hm
    · rw [List.concat_eq_append] at *
      rw [runM_snoc]
      exact step_ok acc m _ x (ih l (by simpa using hm))
/-- the book of Made -/
def madeF (accounts : Int) (l : List S48) : Int × List S27 × Int := (accM accounts, (runM (accM accounts) (l.take 24)).1, (runM (accM accounts) (l.take 24)).2.1)
end Go.Proofs.Ytooogaogbffjfaa.Bk
end
section
/-
  What the books come to: sums over postings.
-/
set_option linter.unusedVariables false
set_option linter.unusedSimpArgs false
namespace Go.Proofs.Ytooogaogbffjfaa.Bk
open Go.RowKit Go.Proofs.YtooogaogbffjfaaW.PrintWords Go.Proofs.YtooogaogbffjfaaW.PrintLast Go.Proofs.YtooogaogbffjfaaW.PrintMore Go.Proofs.Ytooogaogbffjfaa.Ext
def sumI (g : Nat → S27 → Int) : Nat → List S27 → Int
  | _, [] => 0
  | i, p :: r => g i p + sumI g (i + 1) r
/-- a sum over numbers -/
def sumN (n : Nat) (f : Nat → Int) : Int := match n with | 0 => 0 | n + 1 => sumN n f + f n
/-- whether a posting stands -/
def standF (bk : List Bool) (i : Nat) (p : S27) : Bool := !(p.f0 == 3) && !(bk.getD i false)
/-- what stands, for a weight -/
def stW (v : S27 → Int) (l : List S27) : Int := sumI (fun i p => if standF (backs l) i p then v p else 0) 0 l
def alW (v : S27 → Int) (l : List S27) : Int := sumI (fun _ p => v p) 0 l
/-- the two of a taken back posting come to nothing -/
def Odd (v : S27 → Int) : Prop := ∀ p q : S27, isBackB p q = true → v p = - v q
/-- a list by its function -/
def L (n : Nat) (f : Nat → Int) : List Int := (List.range n).map f
theorem stL_L (m : Int) (ps : List S27) (h : ∀ p ∈ ps, Book1 p) (n : Nat) (hn : n ≤ 16) : (stL m ps).take n = L n fun t => tot (thoseL (stF m) 0 ps) (t : Int) := sumB_range _ (fun p hp => h p (thoseL_mem _ _ _ p hp)) n hn
end Go.Proofs.Ytooogaogbffjfaa.Bk
end
