import Derived.Test.YtooogaogbffjfaaDoorMBookHeadsMatchReferenceal
import Derived.Test.YtooogaogbffjfaaDoorMBookHeadsMatchReferenceaq
import Derived.StillTailTactics
import Derived.Outline
import Derived.Test.YtooogaogbffjfaaDoorMBookHeadsMatchReferenceac
import Derived.Lib.SmallJoins
/-
  Texts of this claim, one behind the other: what they prove stands above each.
-/
section
namespace Go.Proofs.YtooogaogbffjfaaDoor.PB
open Go.Proofs.YtooogaogbffjfaaDoor.Ext
attribute [local go_sem] u32_signed u32_max
open Go.RowKit Go.Proofs.YtooogaogbffjfaaDoorW.PrintWords Go.Proofs.YtooogaogbffjfaaDoorW.PrintLast Go.Proofs.YtooogaogbffjfaaDoorW.PrintMore
attribute [local go_sem] max2_int min2_int max_two min_two max_three min_three max_four min_four   -- for this text's walks alone
set_option linter.unusedVariables false
set_option linter.unusedSimpArgs false
def aircheckref24_pick.f (a0 : Int) (a1 : Int) : Option (Int) := if a0 < 0 then (if a1 = 0 then (none) else (some (Int.tmod (wrap64 (-(wrap64 (a0 + 1)))) a1))) else (if a1 = 0 then (none) else (some (Int.tmod a0 a1)))
set_option maxHeartbeats 8000000 in
set_option maxRecDepth 100000 in
theorem aircheckref24_pick.calls (a0 : Int) (a1 : Int) (r : Int) (w : World) (h : aircheckref24_pick.f a0 a1 = some r) :
  Calls Tryd.prog 29 #[.int .i64 a0, .int .i64 a1] w fun e w' => e = .returned (.int .i64 r) ∧ Drawn0 w w' := by
 have H : (if a0 < 0 then (if a1 = 0 then (none) else (some (Int.tmod (wrap64 (-(wrap64 (a0 + 1)))) a1))) else (if a1 = 0 then (none) else (some (Int.tmod a0 a1)))) = some r := h
 clear h
 by_cases c3 : a0 < 0
 ·rw [if_pos c3] at H
  have c3b0 : decide (a0 < 0) = true := decide_eq_true c3
  clear c3
  by_cases c4 : a1 = 0
  ·rw [if_pos c4] at H
   exact absurd H (by simp)
  ·rw [if_neg c4] at H
   have c4b0 : (a1 == 0) = false := beq_eq_false_iff_ne.mpr c4
   have c4b1 : (a1 != 0) = true := bne_iff_ne.mpr c4
   obtain rfl := Option.some.inj H
   go_enter Tryd.func29, Tryd.ntmps29
   go_wp2
   go_ret
   exact ⟨by first | rfl | (simp; done) | (simp [*]; done), by repeat (first | exact Drawn0.refl _ | apply Drawn0.step)⟩
 ·rw [if_neg c3] at H
  have c3b0 : decide (a0 < 0) = false := decide_eq_false c3
  clear c3
  by_cases c5 : a1 = 0
  ·rw [if_pos c5] at H
   exact absurd H (by simp)
  ·rw [if_neg c5] at H
   have c5b0 : (a1 == 0) = false := beq_eq_false_iff_ne.mpr c5
   have c5b1 : (a1 != 0) = true := bne_iff_ne.mpr c5
   obtain rfl := Option.some.inj H
   go_enter Tryd.func29, Tryd.ntmps29
   go_wp2
   go_ret
   exact ⟨by first | rfl | (simp; done) | (simp [*]; done), by repeat (first | exact Drawn0.refl _ | apply Drawn0.step)⟩
end Go.Proofs.YtooogaogbffjfaaDoor.PB
end
section
set_option linter.unusedVariables false
set_option linter.unusedSimpArgs false
namespace Go.Proofs.YtooogaogbffjfaaDoor.Bk
set_option maxRecDepth 100000
open Go.RowKit Go.Proofs.YtooogaogbffjfaaDoorW.PrintWords Go.Proofs.YtooogaogbffjfaaDoorW.PrintLast Go.Proofs.YtooogaogbffjfaaDoorW.PrintMore Go.Proofs.YtooogaogbffjfaaDoor.Ext Go.Proofs.YtooogaogbffjfaaDoor.PB
def pk (c n : Int) : Int := (if c < 0 then -(c + 1) else c) % n
def I64 (c : Int) : Prop := -9223372036854775808 ≤ c ∧ c ≤ 9223372036854775807
theorem pk_bound (c n : Int) (hn : 0 < n) : 0 ≤ pk c n ∧ pk c n < n := ⟨Int.emod_nonneg _ (by omega), Int.emod_lt_of_pos _ hn⟩
theorem pick_is (c n : Int) (hc : I64 c) (hn : 0 < n) : aircheckref24_pick.f c n = some (pk c n) := by
  unfold I64 at hc
  unfold aircheckref24_pick.f pk
  by_cases h : c < 0
  · rw [if_pos h, if_neg (by omega), if_pos h, show wrap64 (c + 1) = c + 1 by unfold wrap64; omega, show wrap64 (-(c + 1)) = -(c + 1) by unfold wrap64; omega, Int.tmod_eq_emod_of_nonneg (by omega)]
  · rw [if_neg h, if_neg (by omega), if_neg h, Int.tmod_eq_emod_of_nonneg (by omega)]
abbrev MS := List S27 × Int × Int
def dayM (d : Int) (x : S67) : Int := if d + pk x.f1 20 < 359 then d + pk x.f1 20 else 359
def postM (acc d : Int) (x : S67) : S27 := ⟨1 + pk (Int.tdiv x.f4 7) 2, d, pk x.f2 acc, (pk x.f2 acc + 1 + pk x.f3 (acc - 1)) % acc, 1 + pk x.f4 1000, pk x.f4 6, -1⟩
def min2M (c : Int) : Int := if 30 * c < 359 then 30 * c else 359
def day2M (d c : Int) : Int := if d < min2M c then min2M c else d
def stepM (acc : Int) (s : MS) (x : S67) : MS :=
  if pk x.f0 6 = 4 then
    (if (dispF acc s.1 s.2.1 (pk x.f3 ((s.1.length : Int) + 1)) (dayM s.2.2 x) (pk x.f4 1000)).2.2.2 = 0 then ((dispF acc s.1 s.2.1 (pk x.f3 ((s.1.length : Int) + 1)) (dayM s.2.2 x) (pk x.f4 1000)).2.1, (dispF acc s.1 s.2.1 (pk x.f3 ((s.1.length : Int) + 1)) (dayM s.2.2 x) (pk x.f4 1000)).2.2.1, dayM s.2.2 x) else (s.1, s.2.1, dayM s.2.2 x))
  else if pk x.f0 6 = 5 then
    (if (closeF acc s.1 s.2.1 s.2.1).2.2.2 = 0 then ((closeF acc s.1 s.2.1 s.2.1).2.1, (closeF acc s.1 s.2.1 s.2.1).2.2.1, day2M (dayM s.2.2 x) (closeF acc s.1 s.2.1 s.2.1).2.2.1) else (s.1, s.2.1, day2M (dayM s.2.2 x) (closeF acc s.1 s.2.1 s.2.1).2.2.1))
  else
    (if (postF acc s.1 s.2.1 (postM acc (dayM s.2.2 x) x)).2.2.2.2 = 0 then ((postF acc s.1 s.2.1 (postM acc (dayM s.2.2 x) x)).2.1, (postF acc s.1 s.2.1 (postM acc (dayM s.2.2 x) x)).2.2.1, dayM s.2.2 x) else (s.1, s.2.1, dayM s.2.2 x))
def runM (acc : Int) (l : List S67) : MS := l.foldl (stepM acc) ([], 0, 0)
def accM (accounts : Int) : Int := 2 + pk accounts 15
theorem accM_bound (a : Int) : 2 ≤ accM a ∧ accM a ≤ 16 := by unfold accM; have := pk_bound a 15 (by omega); omega
theorem runM_snoc (acc : Int) (l : List S67) (x : S67) : runM acc (l ++ [x]) = stepM acc (runM acc l) x := by simp [runM]
def MOk (acc : Int) (n : Nat) (s : MS) : Prop := validB acc s.1 s.2.1 = true ∧ s.1.length ≤ 2 * n ∧ 0 ≤ s.2.2 ∧ s.2.2 ≤ 359
theorem valid_post {acc clo : Int} {ps : List S27} {p : S27} (h : (validB acc ps clo && postB acc clo ps p) = true) : validB acc (ps ++ [p]) clo = true := by
  unfold postB at h
  rw [Bool.and_eq_true, Bool.and_eq_true] at h
  rw [valid_snoc, h.1, h.2.2]; rfl
theorem post_cases (acc clo : Int) (ps : List S27) (p : S27) : ((validB acc ps clo && postB acc clo ps p) = true ∧ postF acc ps clo p = (acc, ps ++ [p], clo, (ps.length : Int), 0)) ∨ ((validB acc ps clo && postB acc clo ps p) = false ∧ postF acc ps clo p = (0, [], 0, 0, 240)) := by
  unfold postF
  cases h : (validB acc ps clo && postB acc clo ps p) with
  | true => exact .inl ⟨rfl, rfl⟩
  | false => exact .inr ⟨rfl, rfl⟩
theorem close_cases (acc clo : Int) (ps : List S27) (m : Int) : (validB acc ps clo = true ∧ m = clo ∧ (0 ≤ clo ∧ clo ≤ 11) ∧ closeF acc ps clo m = (acc, ps, clo + 1, 0)) ∨ (¬ (validB acc ps clo = true ∧ m = clo ∧ 0 ≤ clo ∧ clo ≤ 11) ∧ closeF acc ps clo m = errB) := by
  unfold closeF
  by_cases h : validB acc ps clo = true ∧ m = clo ∧ 0 ≤ clo ∧ clo ≤ 11
  · exact .inl ⟨h.1, h.2.1, h.2.2, by rw [h.1, decide_eq_true h.2.1, decide_eq_true h.2.2]; rfl⟩
  · refine .inr ⟨h, if_neg fun h2 => h ?_⟩
    rw [Bool.and_eq_true, Bool.and_eq_true] at h2
    exact ⟨h2.1.1, of_decide_eq_true h2.1.2, of_decide_eq_true h2.2⟩
inductive DispR (acc : Int) (ps : List S27) (clo i day amount : Int) : Int × List S27 × Int × Int → Prop
  | zero (h : validB acc ps clo = true) (hi : 0 ≤ i ∧ i < (ps.length : Int)) (ha : amount = 0) (h1 : postB acc clo ps (backP (rd_T27 ps i) i.toNat day) = true) : DispR acc ps clo i day amount (acc, ps ++ [backP (rd_T27 ps i) i.toNat day], clo, 0)
  | more (h : validB acc ps clo = true) (hi : 0 ≤ i ∧ i < (ps.length : Int)) (ha : 0 < amount ∧ amount ≤ 1000000000000) (h1 : postB acc clo ps (backP (rd_T27 ps i) i.toNat day) = true) (h2 : postB acc clo (ps ++ [backP (rd_T27 ps i) i.toNat day]) (newP (rd_T27 ps i) day amount) = true) : DispR acc ps clo i day amount (acc, ps ++ [backP (rd_T27 ps i) i.toNat day] ++ [newP (rd_T27 ps i) day amount], clo, 0)
  | err (h : ¬ (validB acc ps clo = true ∧ (0 ≤ i ∧ i < (ps.length : Int)) ∧ (0 ≤ amount ∧ amount ≤ 1000000000000) ∧ postB acc clo ps (backP (rd_T27 ps i) i.toNat day) = true ∧ (0 < amount → postB acc clo (ps ++ [backP (rd_T27 ps i) i.toNat day]) (newP (rd_T27 ps i) day amount) = true))) : DispR acc ps clo i day amount errB
theorem disp_cases (acc clo : Int) (ps : List S27) (i day amount : Int) : DispR acc ps clo i day amount (dispF acc ps clo i day amount) := by
  unfold dispF
  by_cases h : validB acc ps clo = true ∧ (0 ≤ i ∧ i < (ps.length : Int)) ∧ (0 ≤ amount ∧ amount ≤ 1000000000000) ∧ postB acc clo ps (backP (rd_T27 ps i) i.toNat day) = true
  · obtain ⟨h1, h2, h3, h4⟩ := h
    rw [h1, decide_eq_true h2, decide_eq_true h3, h4]
    simp only [Bool.and_self, if_true]
    by_cases ha : 0 < amount
    · rw [if_pos ha]
      cases h5 : postB acc clo (ps ++ [backP (rd_T27 ps i) i.toNat day]) (newP (rd_T27 ps i) day amount) with
      | true => rw [if_pos rfl]; exact .more h1 h2 ⟨ha, h3.2⟩ h4 h5
      | false => rw [if_neg (by decide)]; exact .err fun h => by have := h.2.2.2.2 ha; rw [h5] at this; cases this
    · rw [if_neg ha]; exact .zero h1 h2 (by omega) h4
  · rw [if_neg fun h2 => h ?_]
    · exact .err fun h2 => h ⟨h2.1, h2.2.1, h2.2.2.1, h2.2.2.2.1⟩
    · rw [Bool.and_eq_true, Bool.and_eq_true, Bool.and_eq_true] at h2
      exact ⟨h2.1.1.1, of_decide_eq_true h2.1.1.2, of_decide_eq_true h2.1.2, h2.2⟩
theorem disp_valid {acc clo : Int} {ps : List S27} {i day amount : Int} {r : Int × List S27 × Int × Int} (h : DispR acc ps clo i day amount r) (h0 : r.2.2.2 = 0) : r.1 = acc ∧ validB acc r.2.1 r.2.2.1 = true ∧ r.2.1.length ≤ ps.length + 2 ∧ r.2.2.1 = clo := by
  cases h with
  | zero h hi ha h1 => exact ⟨rfl, valid_post (by rw [h, h1]; rfl), by simp, rfl⟩
  | more h hi ha h1 h2 => exact ⟨rfl, valid_post (by rw [valid_post (by rw [h, h1]; rfl), h2]; rfl), by simp, rfl⟩
  | err h => exact absurd h0 (by decide)
theorem dayM_bound (d : Int) (x : S67) (h : 0 ≤ d) : 0 ≤ dayM d x ∧ dayM d x ≤ 359 := by
  have := pk_bound x.f1 20 (by omega)
  unfold dayM
  split <;> omega
theorem day2M_bound (d c : Int) (h : 0 ≤ d ∧ d ≤ 359) (hc : 0 ≤ c) : 0 ≤ day2M d c ∧ day2M d c ≤ 359 := by
  unfold day2M min2M
  split <;> split <;> omega
theorem step_ok (acc : Int) (n : Nat) (s : MS) (x : S67) (h : MOk acc n s) : MOk acc (n + 1) (stepM acc s x) := by
  obtain ⟨hv, hl, hd⟩ := h
  have h1 := dayM_bound s.2.2 x hd.1
  unfold stepM
  by_cases e4 : pk x.f0 6 = 4
  · rw [if_pos e4]
    have hd := disp_cases acc s.2.1 s.1 (pk x.f3 ((s.1.length : Int) + 1)) (dayM s.2.2 x) (pk x.f4 1000)
    generalize dispF acc s.1 s.2.1 (pk x.f3 ((s.1.length : Int) + 1)) (dayM s.2.2 x) (pk x.f4 1000) = r at *
    by_cases e : r.2.2.2 = 0
    · rw [if_pos e]
      have := disp_valid hd e
      exact ⟨this.2.1, by have := this.2.2.1; show r.2.1.length ≤ _; omega, h1⟩
    · rw [if_neg e]
      exact ⟨hv, by show s.1.length ≤ _; omega, h1⟩
  · rw [if_neg e4]
    by_cases e5 : pk x.f0 6 = 5
    · rw [if_pos e5]
      rcases close_cases acc s.2.1 s.1 s.2.1 with ⟨_, _, hc, e⟩ | ⟨_, e⟩
      · rw [e]
        refine ⟨?_, by show s.1.length ≤ _; omega, day2M_bound _ _ h1 (by show 0 ≤ s.2.1 + 1; omega)⟩
        show validB acc s.1 (s.2.1 + 1) = true
        unfold validB at hv ⊢
        rw [Bool.and_eq_true] at hv
        rw [hv.1, Bool.true_and]
        have := hv.2
        unfold inB at this ⊢
        have := of_decide_eq_true this
        exact decide_eq_true ⟨this.1, by omega⟩
      · rw [e]
        exact ⟨hv, by show s.1.length ≤ _; omega, day2M_bound _ _ h1 (Int.le_refl _)⟩
    · rw [if_neg e5]
      rcases post_cases acc s.2.1 s.1 (postM acc (dayM s.2.2 x) x) with ⟨hp, e⟩ | ⟨_, e⟩
      · rw [e]
        exact ⟨valid_post hp, by show (s.1 ++ [_]).length ≤ _; simp; omega, h1⟩
      · rw [e]
        exact ⟨hv, by show s.1.length ≤ _; omega, h1⟩
theorem start_ok (acc : Int) (ha : 2 ≤ acc ∧ acc ≤ 16) : MOk acc 0 ([], 0, 0) := by
  refine ⟨?_, by simp, by decide, by decide⟩
  unfold validB inB okAll
  exact decide_eq_true ⟨ha, by decide⟩
theorem run_ok (acc : Int) (ha : 2 ≤ acc ∧ acc ≤ 16) (l : List S67) : MOk acc l.length (runM acc l) := by
  generalize hm : l.length = m
  induction m generalizing l with
  | zero =>
    have : l = [] := List.eq_nil_of_length_eq_zero hm
    subst this
    exact start_ok acc ha
  | succ m ih =>
    rcases List.eq_nil_or_concat l with rfl | ⟨l, x, rfl⟩
    · simp at hm
    · rw [List.concat_eq_append] at *
      rw [runM_snoc]
      exact step_ok acc m _ x (ih l (by simpa using hm))
def madeF (accounts : Int) (l : List S67) : Int × List S27 × Int := (accM accounts, (runM (accM accounts) (l.take 24)).1, (runM (accM accounts) (l.take 24)).2.1)
end Go.Proofs.YtooogaogbffjfaaDoor.Bk
end
section
set_option linter.unusedVariables false
set_option linter.unusedSimpArgs false
namespace Go.Proofs.YtooogaogbffjfaaDoor.Ext
set_option maxRecDepth 100000
open Go.RowKit Go.Shelf Go.Proofs.YtooogaogbffjfaaDoorW.PrintWords Go.Proofs.YtooogaogbffjfaaDoorW.PrintLast Go.Proofs.YtooogaogbffjfaaDoorW.PrintMore Go.Proofs.YtooogaogbffjfaaDoor.PK Go.Proofs.YtooogaogbffjfaaDoor.Bk Go.Proofs.YtooogaogbffjfaaDoor.PB
attribute [local go_sem] Oper.semAt_some
theorem pick_walk (c n : Int) (hc : I64 c) (hn : 0 < n) (r : Int) (hr : pk c n = r) (w : World) : Calls Tryd.prog 29 #[.int .i64 c, .int .i64 n] w fun e w' => e = .returned (.int .i64 r) ∧ Drawn0 w w' :=
  hr ▸ aircheckref24_pick.calls c n _ w (pick_is c n hc hn)
theorem dn_cell (W : World) (m j : Nat) (c : Array Value) (t : TypeId) : ((W.drewN m).alloc (.cells c t)).cell? ⟨W.heap.size, j, none⟩ = c[j]? := World.cell?_alloc_new (w := W.drewN m) c t j
theorem dn_frz (W : World) (m j : Nat) (c : Array Value) (t : TypeId) : ((W.drewN m).alloc (.cells c t)).frozen? ⟨W.heap.size, j, none⟩ = false := by
  have := (Blk.newA (W.drewN m) t c _ rfl).free j
  exact this
theorem dn_set (W : World) (m j : Nat) (c : Array Value) (t : TypeId) (v : Value) : ((W.drewN m).alloc (.cells c t)).setCell ⟨W.heap.size, j, none⟩ v = (W.drewN m).alloc (.cells (c.setIfInBounds j v) t) := World.setCell_alloc_at (w := W.drewN m) c t W.heap.size j v rfl
attribute [local go_sem] dn_cell dn_frz dn_set
theorem pick_same (c n : Int) (hc : I64 c) (hn : 0 < n) (r : Int) (hr : pk c n = r) (w : World) : Calls Tryd.prog 29 #[.int .i64 c, .int .i64 n] w fun e w' => e = .returned (.int .i64 r) ∧ w' = w := by
  have hn0 : ¬ n = 0 := by omega
  unfold I64 at hc
  subst hr
  unfold pk
  by_cases h : c < 0
  · have e1 : wrap64 (-(c + 1)) = -(c + 1) := by unfold wrap64; omega
    have e2 : Int.tmod (-(c + 1)) n = (-(c + 1)) % n := Int.tmod_eq_emod_of_nonneg (by omega)
    rw [if_pos h, ← e2]
    clear e2
    go_enter Tryd.func29, Tryd.ntmps29
    go_wp2
    go_ret
    exact ⟨by first | rfl | (simp; done) | (simp [*]; done), rfl⟩
  · have h0 : 0 ≤ c := by omega
    have hn1 : 0 ≤ n := by omega
    rw [if_neg h]
    go_enter Tryd.func29, Tryd.ntmps29
    go_wp2
    go_ret
    exact ⟨by first | rfl | (simp; done) | (simp [*]; done), rfl⟩
theorem tdiv7 (x : Int) (h : I64 x) : I64 (Int.tdiv x 7) := by
  unfold I64 at h ⊢
  rcases Int.le_total 0 x with h0 | h0
  · rw [Int.tdiv_eq_ediv_of_nonneg h0]; omega
  · obtain ⟨y, rfl⟩ : ∃ y, x = -y := ⟨-x, by omega⟩
    rw [Int.neg_tdiv, Int.tdiv_eq_ediv_of_nonneg (by omega)]; omega
theorem pick_q (c n : Int) (hc : I64 c) (hn : 0 < n) (r : Int) (hr : pk c n = r) (w : World) (m : Nat) : Calls Tryd.prog 29 #[.int .i64 c, .int .i64 n] (w.drewN m) fun e w' => e = .returned (.int .i64 r) ∧ ∃ k, w' = w.drewN k :=
  Calls.quiet_of ((pick_walk c n hc hn r hr (w.drewN m)).mono fun e w' ⟨he, hd⟩ => ⟨he, by obtain ⟨k, rfl⟩ := hd.1; exact ⟨k, rfl⟩⟩)
theorem rDisp_walk (acc clo : Int) (A : Option Addr) (n c : Nat) (ps : List S27) (hl : ps.length = n) (i day amount : Int) (r : Int × List S27 × Int × Int) (hr : dispF acc ps clo i day amount = r) (w : World) (hC : Kd.C k27 w A n ps) (hc : n ≤ c) (hn : n ≤ 999990) :
    Calls Tryd.prog 31 #[.agg #[.int .i64 acc, .slice A n c, .int .i64 clo], .int .i64 i, .int .i64 day, .int .i64 amount] w fun e w' => ∃ (A' : Option Addr) (c' n' : Nat), r.2.1.length = n' ∧ e = .returned (.tuple #[.agg #[.int .i64 r.1, .slice A' n' c', .int .i64 r.2.2.1], .int .i64 r.2.2.2]) ∧ Kd.R k27 27 w' w.heap.size (fun _ => True) (.slice A' n' c') r.2.1 ∧ Below w.heap.size w w' := by
  subst hl
  refine (aircheckref24_Dispute.calls 100000 acc A c ps clo i day amount r.1 r.2.1 r.2.2.1 r.2.2.2 w hC hc (by rw [refDispute_is _ _ _ _ _ _ _ (by omega) (by omega), hr])).mono ?_
  rintro e w' ⟨v, he, hR, hb⟩
  obtain ⟨A', c', rfl⟩ := Kd.R_slice hR
  exact ⟨A', c', _, rfl, he, hR, hb⟩
theorem rClose_walk (acc clo : Int) (A : Option Addr) (n c : Nat) (ps : List S27) (hl : ps.length = n) (m : Int) (r : Int × List S27 × Int × Int) (hr : closeF acc ps clo m = r) (w : World) (hC : Kd.C k27 w A n ps) (hc : n ≤ c) (hn : n ≤ 999990) :
    Calls Tryd.prog 32 #[.agg #[.int .i64 acc, .slice A n c, .int .i64 clo], .int .i64 m] w fun e w' => ∃ (A' : Option Addr) (c' n' : Nat), r.2.1.length = n' ∧ e = .returned (.tuple #[.agg #[.int .i64 r.1, .slice A' n' c', .int .i64 r.2.2.1], .int .i64 r.2.2.2]) ∧ Kd.R k27 27 w' w.heap.size (fun _ => True) (.slice A' n' c') r.2.1 ∧ Below w.heap.size w w' := by
  subst hl
  refine (aircheckref24_Close.calls 100000 acc A c ps clo m r.1 r.2.1 r.2.2.1 r.2.2.2 w hC hc (by rw [refClose_is _ _ _ _ _ (by omega) (by omega), hr])).mono ?_
  rintro e w' ⟨v, he, hR, hb⟩
  obtain ⟨A', c', rfl⟩ := Kd.R_slice hR
  exact ⟨A', c', _, rfl, he, hR, hb⟩
theorem wp_det {P : Program} {c : Code} {Q : Exit → Act → World → Prop} {a : Act} {w : World} {A : Act} {W : World} (h : c.wp P (fun e a' w' => e = Exit.normal ∧ a' = A ∧ w' = W) a w) (hq : Q .normal A W) : c.wp P Q a w :=
  Code.wp_mono (fun e a w ⟨h1, h2, h3⟩ => by subst h1; subst h2; subst h3; exact hq) h
def I64x (x : S67) : Prop := I64 x.f0 ∧ I64 x.f1 ∧ I64 x.f2 ∧ I64 x.f3 ∧ I64 x.f4
def Own (w0 w : World) (g : Nat) (acc : Int) (A : Option Addr) (n c : Nat) (clo : Int) (ps : List S27) : Prop :=
  ps.length = n ∧ n ≤ c ∧ Blk w g 24 [.int .i64 acc, .slice A n c, .int .i64 clo] ∧ Kd.R k27 27 w w0.heap.size (fun _ => True) (.slice A n c) ps
theorem Own.below {w0 w w' : World} {g : Nat} {acc clo : Int} {A : Option Addr} {n c : Nat} {ps : List S27} (h : Own w0 w g acc A n c clo ps) (hb : Below w.heap.size w w') : Own w0 w' g acc A n c clo ps := ⟨h.1, h.2.1, h.2.2.1.belowS hb, Kd.R_below h.2.2.2 hb⟩
theorem Own.reads {w0 w : World} {g : Nat} {acc clo : Int} {A : Option Addr} {n c : Nat} {ps : List S27} (h : Own w0 w g acc A n c clo ps) : Kd.C k27 w A n ps := by
  have := (Kd.R_reads' h.2.2.2).2.2
  rwa [h.1] at this
theorem Own.put3 {w0 w : World} {g nb : Nat} {acc clo : Int} {A : Option Addr} {n c : Nat} {ps : List S27} {a0 a1 a2 : Value} (h : Own w0 w g acc A n c clo ps) (hb : Blk w nb 24 [a0, a1, a2]) (hne : g ≠ nb) (v0 v1 v2 : Value) :
    Own w0 (((w.setCell ⟨nb, 0, none⟩ v0).setCell ⟨nb, 1, none⟩ v1).setCell ⟨nb, 2, none⟩ v2) g acc A n c clo ps :=
  ⟨h.1, h.2.1, ((h.2.2.1.set_other ⟨nb, 0, none⟩ hne v0).set_other ⟨nb, 1, none⟩ hne v1).set_other ⟨nb, 2, none⟩ hne v2, res_keep h.2.2.2 hb v0 v1 v2⟩
theorem put3_blk {w : World} {nb : Nat} {t : TypeId} {a0 a1 a2 : Value} (hb : Blk w nb t [a0, a1, a2]) (v0 v1 v2 : Value) : Blk (((w.setCell ⟨nb, 0, none⟩ v0).setCell ⟨nb, 1, none⟩ v1).setCell ⟨nb, 2, none⟩ v2) nb t [v0, v1, v2] := ((hb.set 0 v0).set 1 v1).set 2 v2
theorem put3_far {w : World} {nb k : Nat} {t : TypeId} {C : List Value} (hb : Blk w k t C) (hne : k ≠ nb) (v0 v1 v2 : Value) : Blk (((w.setCell ⟨nb, 0, none⟩ v0).setCell ⟨nb, 1, none⟩ v1).setCell ⟨nb, 2, none⟩ v2) k t C :=
  ((hb.set_other ⟨nb, 0, none⟩ hne v0).set_other ⟨nb, 1, none⟩ hne v1).set_other ⟨nb, 2, none⟩ hne v2
theorem Own.take {w0 w : World} {g : Nat} {acc clo clo' : Int} {A A' : Option Addr} {n c n' c' b : Nat} {ps qs : List S27} (h : Own w0 w g acc A n c clo ps) (hq : qs.length = n') (hR : Kd.R k27 27 w b (fun _ => True) (.slice A' n' c') qs) (hb : w0.heap.size ≤ b) :
    Own w0 (((w.setCell ⟨g, 0, none⟩ (.int .i64 acc)).setCell ⟨g, 1, none⟩ (.slice A' n' c')).setCell ⟨g, 2, none⟩ (.int .i64 clo')) g acc A' n' c' clo' qs := by
  have hr := (Kd.R_reads' hR)
  exact ⟨hq, by have := hr.2.1; omega, put3_blk h.2.2.1 _ _ _, Kd.R_lower (res_keep hR h.2.2.1 _ _ _) hb⟩
theorem R_put3 {w : World} {nb b : Nat} {v : Value} {qs : List S27} {a0 a1 a2 : Value} (hR : Kd.R k27 27 w b (fun _ => True) v qs) (hb : Blk w nb 24 [a0, a1, a2]) (v0 v1 v2 : Value) : Kd.R k27 27 (((w.setCell ⟨nb, 0, none⟩ v0).setCell ⟨nb, 1, none⟩ v1).setCell ⟨nb, 2, none⟩ v2) b (fun _ => True) v qs := res_keep hR hb v0 v1 v2
set_option maxRecDepth 100000 in
set_option maxHeartbeats 4000000 in
theorem Made_walk (a0 : Int) (ha : I64 a0) (A : Option Addr) (n c : Nat) (l : List S67) (hl : l.length = n) (hx : ∀ x ∈ l, I64x x) (w : World) (hC : Kd.C k67 w A n l) (acc : Int) (hacc : accM a0 = acc) (s : MS) (hs : runM acc (l.take 24) = s) :
    Calls Tryd.prog 8 #[.int .i64 a0, .slice A n c] w fun e w' => ∃ v : Value, e = .returned (.agg #[.int .i64 acc, v, .int .i64 s.2.1]) ∧ Kd.R k27 27 w' w.heap.size (fun _ => True) v s.1 ∧ Below w.heap.size w w' := by
  have hab := accM_bound a0
  rw [hacc] at hab
  have hw2 : IntKind.i64.wrap (2 + pk a0 15) = acc := by rw [show 2 + pk a0 15 = acc from hacc]; exact IntWalk.i64_in _ (by omega)
  obtain ⟨q0, hq0⟩ : ∃ q, pk a0 15 = q := ⟨_, rfl⟩
  rw [hq0] at hw2
  have HQ := Lib.hid hq0
  have HL := Lib.hid hl
  have HX := Lib.hid hx
  have HC := Lib.hid hC
  have HS := Lib.hid hs
  clear hq0 hl hx hC hacc hs
  go_enter Tryd.func8, Tryd.ntmps8
  go_wp2_with (first | (go_at_call 29; (with_reducible refine (pick_walk a0 15 ha (by omega) q0 HQ.out _).mono ?_); rintro e w2 ⟨rfl, hd2⟩) | fail)
  have hb2 : Below w.heap.size w w2 := Below.trans ((Below.refl _ _).alloc (Nat.le_refl _) _) (hd2.below.mono (by simp))
  have hR2 : Blk w2 w.heap.size 24 [.int .i64 0, .slice none 0 0, .int .i64 0] := (Blk.newA w _ _ _ rfl).belowS hd2.below
  have hlt2 := hR2.lt
  have hO0 : Own w (w2.alloc (.cells #[.int .i64 acc, .slice none 0 0, .int .i64 0] 24)) w2.heap.size acc none 0 0 0 (runM acc (l.take 0)).1 := ⟨rfl, Nat.le_refl _, Blk.newA _ _ _ _ rfl, Kd.R_nil _ _ _ _ _⟩
  have hR3 := hR2.alloc (.cells #[.int .i64 acc, .slice none 0 0, .int .i64 0] 24)
  have hb3 : Below w.heap.size w (w2.alloc (.cells #[.int .i64 acc, .slice none 0 0, .int .i64 0] 24)) := hb2.alloc (by omega) _
  have hne : w.heap.size ≠ w2.heap.size := by omega
  have hle : w.heap.size ≤ w2.heap.size := by omega
  clear hd2 hR2 hb2 hw2
  generalize w2.alloc (.cells #[.int .i64 acc, .slice none 0 0, .int .i64 0] 24) = w3 at *
  generalize w2.heap.size = g at *
  have HNE := Lib.hid hne
  clear hne
  go_loopw [7, 6] (fun i d wr => ∃ (k : Nat) (st : MS) (A' : Option Addr) (n' c' : Nat), k ≤ n ∧ k ≤ 24 ∧ i = .int .i64 (k : Int) ∧ Hid (runM acc (l.take k) = st) ∧ d = .int .i64 st.2.2 ∧ Own w wr g acc A' n' c' st.2.1 st.1 ∧ Blk wr w.heap.size 24 [.int .i64 0, .slice none 0 0, .int .i64 0] ∧ Below w.heap.size w wr) (fun i d wr => n - (intOf i).toNat)
  case atStart => exact ⟨0, _, none, 0, 0, by omega, by omega, rfl, Lib.hid rfl, rfl, hO0, hR3, hb3⟩
  case round =>
    obtain ⟨k, ⟨ps, clo, D⟩, A', n', c', hk, hk24, rfl, HST, rfl, hown, hRw, hbel⟩ := hrel
    simp only at hown
    clear hO0 hR3 hb3
    by_cases hlt : k < n ∧ k < 24
    · obtain ⟨hkn, hk2⟩ := hlt
      have hki : (k : Int) < (n : Int) := by omega
      have hki2 : (k : Int) < 24 := by omega
      obtain ⟨ad, rfl, x0, x1, x2, x3, x4⟩ := at_T67 (Kd.C_below HC.out hbel) (k : Int) (by omega) hki
      rw [Int.toNat_natCast] at x0 x1 x2 x3 x4
      have hkl : k < l.length := by rw [HL.out]; exact hkn
      have hmem : rd_T67 l (k : Int) ∈ l := by
        unfold rd_T67
        rw [Int.toNat_natCast, List.getD_eq_getElem?_getD, List.getElem?_eq_getElem hkl]
        exact List.getElem_mem hkl
      have hsn : l.take (k + 1) = l.take k ++ [rd_T67 l (k : Int)] := by
        unfold rd_T67
        rw [Int.toNat_natCast, List.getD_eq_getElem?_getD, List.take_add_one, List.getElem?_eq_getElem hkl]
        rfl
      have hix := HX.out _ hmem
      have hrun : runM acc (l.take (k + 1)) = stepM acc (ps, clo, D) (rd_T67 l (k : Int)) := by rw [hsn, runM_snoc, HST.out]
      generalize rd_T67 l (k : Int) = x at *
      have hok := run_ok acc hab (l.take k)
      rw [HST.out] at hok
      have hok2 : MOk acc 24 (ps, clo, D) := ⟨hok.1, by have := hok.2.1; rw [List.length_take] at this; omega, hok.2.2⟩
      obtain ⟨hx0, hx1, hx2, hx3, hx4⟩ := hix
      have HRUN := Lib.hid hrun
      clear hmem hsn hrun hok hkl
      have hD : 0 ≤ D ∧ D ≤ 359 := hok2.2.2
      have HOK := Lib.hid hok2
      clear hok2
      obtain ⟨q1, hq1⟩ : ∃ q, pk x.f1 20 = q := ⟨_, rfl⟩
      have hq1b := pk_bound x.f1 20 (by omega)
      rw [hq1] at hq1b
      have HQ1 := Lib.hid hq1
      clear hq1
      go_upto_region 7 with (first | (go_at_call 29; (with_reducible refine (pick_walk x.f1 20 hx1 (by omega) q1 HQ1.out _).mono ?_); rintro e w4 ⟨rfl, hd4⟩) | fail)
      obtain ⟨D1, hD1⟩ : ∃ D1, (if D + q1 < 359 then D + q1 else 359) = D1 := ⟨_, rfl⟩
      have hD1b : 0 ≤ D1 ∧ D1 ≤ 359 := by rw [← hD1]; split <;> omega
      have hDM : dayM D x = D1 := by unfold dayM; rw [HQ1.out]; exact hD1
      rw [hD1]
      have HDM := Lib.hid hDM
      have hown4 := hown.below hd4.below
      have hRw4 := hRw.belowS hd4.below
      have hbel4 : Below w.heap.size w w4 := Below.trans hbel (hd4.below.mono hbel.size)
      have y0 := keepB hd4.below x0
      have y1 := keepB hd4.below x1
      have y2 := keepB hd4.below x2
      have y3 := keepB hd4.below x3
      have y4 := keepB hd4.below x4
      clear hD1 hDM hown hRw hbel x0 x1 x2 x3 x4 hd4
      obtain ⟨q2, hq2⟩ : ∃ q, pk x.f2 acc = q := ⟨_, rfl⟩
      have hq2b := pk_bound x.f2 acc (by omega)
      rw [hq2] at hq2b
      have HQ2 := Lib.hid hq2
      have hacc := hown4.2.2.1.cell (j := 0) rfl
      have HOWN := Lib.hid hown4
      have HRW := Lib.hid hRw4
      have HB4 := Lib.hid hbel4
      clear hq2 hown4 hRw4 hbel4
      go_quiet ((go_at_call 29; exact pick_q x.f2 acc hx2 (by omega) q2 HQ2.out _ _))
      go_wp2
      obtain ⟨t4, ht4⟩ : ∃ t, Int.tdiv x.f4 7 = t := ⟨_, rfl⟩
      have ht4b : I64 t4 := by rw [← ht4]; exact tdiv7 _ hx4
      have hw4 : IntKind.i64.wrap (Int.tdiv x.f4 7) = t4 := by rw [ht4]; unfold I64 at ht4b; exact IntWalk.i64_in _ (by omega)
      obtain ⟨q4, hq4⟩ : ∃ q, pk t4 2 = q := ⟨_, rfl⟩
      have b4 := pk_bound t4 2 (by omega)
      rw [hq4] at b4
      obtain ⟨k1, hk1⟩ : ∃ k, 1 + q4 = k := ⟨_, rfl⟩
      have hw5 : IntKind.i64.wrap (1 + q4) = k1 := by rw [← hk1]; exact IntWalk.i64_in _ (by omega)
      obtain ⟨a1, ha1⟩ : ∃ a, acc - 1 = a := ⟨_, rfl⟩
      have hw6 : IntKind.i64.wrap (acc - 1) = a1 := by rw [← ha1]; exact IntWalk.i64_in _ (by omega)
      have ha1p : 0 < a1 := by omega
      obtain ⟨q3, hq3⟩ : ∃ q, pk x.f3 a1 = q := ⟨_, rfl⟩
      have b3 := pk_bound x.f3 a1 (by omega)
      rw [hq3] at b3
      obtain ⟨u1, hu1⟩ : ∃ u, q2 + 1 = u := ⟨_, rfl⟩
      have hw7 : IntKind.i64.wrap (q2 + 1) = u1 := by rw [← hu1]; exact IntWalk.i64_in _ (by omega)
      obtain ⟨u2, hu2⟩ : ∃ u, u1 + q3 = u := ⟨_, rfl⟩
      have hw8 : IntKind.i64.wrap (u1 + q3) = u2 := by rw [← hu2]; exact IntWalk.i64_in _ (by omega)
      obtain ⟨u3, hu3⟩ : ∃ u, u2 % acc = u := ⟨_, rfl⟩
      have b5 : 0 ≤ u3 ∧ u3 < acc := by rw [← hu3]; exact ⟨Int.emod_nonneg _ (by omega), Int.emod_lt_of_pos _ (by omega)⟩
      have hw9 : IntKind.i64.wrap (Int.tmod u2 acc) = u3 := by rw [Int.tmod_eq_emod_of_nonneg (by omega), hu3]; exact IntWalk.i64_in _ (by omega)
      obtain ⟨q5, hq5⟩ : ∃ q, pk x.f4 1000 = q := ⟨_, rfl⟩
      have b6 := pk_bound x.f4 1000 (by omega)
      rw [hq5] at b6
      obtain ⟨u5, hu5⟩ : ∃ u, 1 + q5 = u := ⟨_, rfl⟩
      have hw10 : IntKind.i64.wrap (1 + q5) = u5 := by rw [← hu5]; exact IntWalk.i64_in _ (by omega)
      obtain ⟨q6, hq6⟩ : ∃ q, pk x.f4 6 = q := ⟨_, rfl⟩
      have haz : ¬ acc = 0 := by omega
      have hpost : postM acc D1 x = ⟨k1, D1, q2, u3, u5, q6, -1⟩ := by
        unfold postM
        rw [HQ2.out, ht4, hq4, hk1, ha1, hq3, hu1, hu2, hu3, hq5, hu5, hq6]
      have HPM := Lib.hid hpost
      have HQ3 := Lib.hid hq3
      have HQ4 := Lib.hid hq4
      have HQ5 := Lib.hid hq5
      have HQ6 := Lib.hid hq6
      have HTM := Lib.hid (show Int.tmod u2 acc = u3 from by rw [Int.tmod_eq_emod_of_nonneg (by omega), hu3])
      clear ht4 hq4 hk1 ha1 hq3 hu1 hu2 hu3 hq5 hu5 hq6 hpost
      have hne1 : (ad.add (k * 5)).block ≠ w4.heap.size := Nat.ne_of_lt (World.block_lt_of_cell? w4 _ y0)
      have hne2 : g ≠ w4.heap.size := Nat.ne_of_lt (World.block_lt_of_cell? w4 _ hacc)
      apply wp_det
      · go_region_held3 (fun w' => w'.cell? ⟨(ad.add (k * 5)).block, (ad.add (k * 5)).off + 4, none⟩ = some (.int .i64 x.f4) ∧ w'.cell? ⟨(ad.add (k * 5)).block, (ad.add (k * 5)).off + 3, none⟩ = some (.int .i64 x.f3) ∧ w'.cell? ⟨g, 0, none⟩ = some (.int .i64 acc)) (first | (with_reducible exact ⟨y4, y3, hacc⟩) | (refine ⟨?_, ?_, ?_⟩ <;> (repeat (first | with_reducible exact y4 | with_reducible exact y3 | with_reducible exact hacc | with_reducible refine c_old ?_ | with_reducible refine c_drewN ?_ | with_reducible refine c_drew ?_ | with_reducible refine far_set hne1 ?_ | with_reducible refine far_set hne2 ?_))) | fail) (first | (go_at_call 29; (with_reducible refine (pick_same t4 2 ht4b (by omega) q4 HQ4.out _).mono ?_); rintro e w' ⟨rfl, rfl⟩) | (go_at_call 29; (with_reducible refine (pick_same x.f3 a1 hx3 ha1p q3 HQ3.out _).mono ?_); rintro e w' ⟨rfl, rfl⟩) | (go_at_call 29; (with_reducible refine (pick_same x.f4 1000 hx4 (by omega) q5 HQ5.out _).mono ?_); rintro e w' ⟨rfl, rfl⟩) | (go_at_call 29; (with_reducible refine (pick_same x.f4 6 hx4 (by omega) q6 HQ6.out _).mono ?_); rintro e w' ⟨rfl, rfl⟩) | fail)
        all_goals exact ⟨rfl, rfl, rfl⟩
      rw [HTM.out]
      have hb5 : Below w4.heap.size w4 ((w4.drewN (nq + 1)).alloc (.cells #[.int .i64 k1, .int .i64 D1, .int .i64 q2, .int .i64 u3, .int .i64 u5, .int .i64 q6, .int .i64 (-1)] 27)) := (below_dN (Below.refl _ _) _).alloc (Nat.le_refl _) _
      have hpb : Blk ((w4.drewN (nq + 1)).alloc (.cells #[.int .i64 k1, .int .i64 D1, .int .i64 q2, .int .i64 u3, .int .i64 u5, .int .i64 q6, .int .i64 (-1)] 27)) w4.heap.size 27 [.int .i64 k1, .int .i64 D1, .int .i64 q2, .int .i64 u3, .int .i64 u5, .int .i64 q6, .int .i64 (-1)] := Blk.newA (w4.drewN (nq + 1)) _ _ _ rfl
      have z0 := keepB hb5 y0
      have z3 := keepB hb5 y3
      have z4 := keepB hb5 y4
      have HO5 := Lib.hid (HOWN.out.below hb5)
      have HR5 := Lib.hid (HRW.out.belowS hb5)
      have HB5 := Lib.hid (Below.trans HB4.out (hb5.mono HB4.out.size))
      clear hw4 hw5 hw6 hw7 hw8 hw9 hw10 haz hne1 hne2 y0 y1 y2 y3 y4 hacc hb5 HOWN HRW HB4
      generalize (w4.drewN (nq + 1)).alloc (.cells #[.int .i64 k1, .int .i64 D1, .int .i64 q2, .int .i64 u3, .int .i64 u5, .int .i64 q6, .int .i64 (-1)] 27) = w5 at *
      generalize w4.heap.size = pb at *
      obtain ⟨rp, hrp⟩ : ∃ r, postF acc ps clo ⟨k1, D1, q2, u3, u5, q6, -1⟩ = r := ⟨_, rfl⟩
      have HRP := Lib.hid hrp
      have hn' : n' ≤ 48 := by have := HOK.out.2.1; have := HO5.out.1; simp only at *; omega
      have hg0 := HO5.out.2.2.1.cell (j := 0) rfl
      have hg1 := HO5.out.2.2.1.cell (j := 1) rfl
      have hg2 := HO5.out.2.2.1.cell (j := 2) rfl
      have p0 := hpb.cell (j := 0) rfl
      have p1 := hpb.cell (j := 1) rfl
      have p2 := hpb.cell (j := 2) rfl
      have p3 := hpb.cell (j := 3) rfl
      have p4 := hpb.cell (j := 4) rfl
      have p5 := hpb.cell (j := 5) rfl
      have p6 := hpb.cell (j := 6) rfl
      have HPC := Lib.hid (rPost_walk acc clo A' n' c' ps HO5.out.1 ⟨k1, D1, q2, u3, u5, q6, -1⟩ rp hrp w5 HO5.out.reads HO5.out.2.1 (by omega))
      clear hrp hpb
      obtain ⟨qk, hqk⟩ : ∃ q, pk x.f0 6 = q := ⟨_, rfl⟩
      have HQK := Lib.hid hqk
      clear hqk
      go_upto_region 11 with (first | (go_at_call 30; (with_reducible refine HPC.out.mono ?_); rintro e w6 ⟨Ap, cp, np, hnp, rfl, hRp, hb6⟩; have HNP := Lib.hid hnp; have HRp := Lib.hid hRp; have x0 := c_old (o := .cells #[.int .i64 rp.1, .slice Ap np cp, .int .i64 rp.2.2.1] 24) (keepB hb6 z0); clear hnp hRp) | (go_at_call 29; (with_reducible refine (pick_same x.f0 6 hx0 (by omega) qk HQK.out _).mono ?_); rintro e w7 ⟨rfl, rfl⟩) | fail)
      have hnb : Blk (w6.alloc (.cells #[.int .i64 rp.1, .slice Ap np cp, .int .i64 rp.2.2.1] 24)) w6.heap.size 24 [.int .i64 rp.1, .slice Ap np cp, .int .i64 rp.2.2.1] := Blk.newA _ _ _ _ rfl
      have hb67 : Below w6.heap.size w6 (w6.alloc (.cells #[.int .i64 rp.1, .slice Ap np cp, .int .i64 rp.2.2.1] 24)) := (Below.refl _ _).alloc (Nat.le_refl _) _
      have hb57 : Below w5.heap.size w5 (w6.alloc (.cells #[.int .i64 rp.1, .slice Ap np cp, .int .i64 rp.2.2.1] 24)) := hb6.trans (hb67.mono hb6.size)
      have hxnb : (ad.add (k * 5)).block ≠ w6.heap.size := Nat.ne_of_lt (World.block_lt_of_cell? w6 _ (keepB hb6 z0))
      have z0 := keepB hb57 z0
      have z3 := keepB hb57 z3
      have z4 := keepB hb57 z4
      have hO7 := HO5.out.below hb57
      have HR7 := Lib.hid (HR5.out.belowS hb57)
      have HB7 := Lib.hid (Below.trans HB5.out (hb57.mono HB5.out.size))
      have HRp7 := Lib.hid (Kd.R_below HRp.out hb67)
      have HWB := Lib.hid (show w.heap.size ≤ w5.heap.size from HB5.out.size)
      have hgnb : g ≠ w6.heap.size := by have := hO7.2.2.1.lt; have := (HO5.out.below hb6).2.2.1.lt; omega
      have hwnb : w.heap.size ≠ w6.heap.size := by have := (HR5.out.belowS hb6).lt; omega
      have HGN := Lib.hid (And.intro hgnb (And.intro hwnb hxnb))
      have HO7 := Lib.hid hO7
      have HNB := Lib.hid hnb
      have HB67 := Lib.hid (show w.heap.size ≤ w6.heap.size by have := (HR5.out.belowS hb6).lt; omega)
      clear hg0 hg1 hg2 p0 p1 p2 p3 p4 p5 p6 HPC HO5 HR5 HB5 HRp hb57 hb67 hb6 x0 hO7 hnb hgnb hwnb hxnb
      generalize w6.alloc (.cells #[.int .i64 rp.1, .slice Ap np cp, .int .i64 rp.2.2.1] 24) = w7 at *
      generalize w6.heap.size = nb at *
      generalize w5.heap.size = b5 at *
      have hrun1 : ∀ st' : MS, stepM acc (ps, clo, D) x = st' → Hid (runM acc (l.take (k + 1)) = st') := fun st' e => Lib.hid (HRUN.out.trans e)
      have HNX := Lib.hid hrun1
      clear hrun1
      have g0 := HO7.out.2.2.1.cell (j := 0) rfl
      have g1 := HO7.out.2.2.1.cell (j := 1) rfl
      have g2 := HO7.out.2.2.1.cell (j := 2) rfl
      have b0 := HNB.out.cell (j := 0) rfl
      have b1 := HNB.out.cell (j := 1) rfl
      have b2 := HNB.out.cell (j := 2) rfl
      have fg := fun j => HO7.out.2.2.1.free j
      have fb := fun j => HNB.out.free j
      have f0 := fg 0
      have f1 := fg 1
      have f2 := fg 2
      clear fg
      have HS4 : qk = 4 → Hid (stepM acc (ps, clo, D) x = if (dispF acc ps clo (pk x.f3 ((ps.length : Int) + 1)) D1 q5).2.2.2 = 0 then ((dispF acc ps clo (pk x.f3 ((ps.length : Int) + 1)) D1 q5).2.1, (dispF acc ps clo (pk x.f3 ((ps.length : Int) + 1)) D1 q5).2.2.1, D1) else (ps, clo, D1)) := fun e => Lib.hid (by
        unfold stepM
        simp only
        rw [HQK.out, if_pos e, HDM.out, HQ5.out])
      have HS5 : qk = 5 → Hid (stepM acc (ps, clo, D) x = if (closeF acc ps clo clo).2.2.2 = 0 then ((closeF acc ps clo clo).2.1, (closeF acc ps clo clo).2.2.1, day2M D1 (closeF acc ps clo clo).2.2.1) else (ps, clo, day2M D1 (closeF acc ps clo clo).2.2.1)) := fun e => Lib.hid (by
        unfold stepM
        simp only
        rw [HQK.out, if_neg (by omega), if_pos e, HDM.out])
      have HS0 : ¬ qk = 4 → ¬ qk = 5 → Hid (stepM acc (ps, clo, D) x = if rp.2.2.2.2 = 0 then (rp.2.1, rp.2.2.1, D1) else (ps, clo, D1)) := fun e1 e2 => Lib.hid (by
        unfold stepM
        simp only
        rw [HQK.out, if_neg e1, if_neg e2, HDM.out, HPM.out, HRP.out])
      by_cases hq4' : qk = 4
      · have c4 : (qk == 4) = true := beq_iff_eq.2 hq4'
        have c5 : (qk == 5) = false := beq_eq_false_iff_ne.2 (by omega)
        have hst := (HS4 hq4').out
        have hgn : g ≠ nb := HGN.out.1
        have hng : nb ≠ g := fun e => HGN.out.1 e.symm
        have hxn := HGN.out.2.2
        have hlen : (ps.length : Int) = (n' : Int) := by rw [HO7.out.1]
        rw [hlen] at hst
        obtain ⟨m1, hm1⟩ : ∃ m : Int, (n' : Int) + 1 = m := ⟨_, rfl⟩
        have hwm : IntKind.i64.wrap ((n' : Int) + 1) = m1 := by rw [← hm1]; exact IntWalk.i64_in _ (by omega)
        have hm1p : 0 < m1 := by omega
        obtain ⟨qi, hqi⟩ : ∃ q, pk x.f3 m1 = q := ⟨_, rfl⟩
        rw [hm1, hqi] at hst
        have HQI := Lib.hid hqi
        obtain ⟨rd, hrd⟩ : ∃ r, dispF acc ps clo qi D1 q5 = r := ⟨_, rfl⟩
        rw [hrd] at hst
        have HDR := Lib.hid (disp_cases acc clo ps qi D1 q5)
        have HRD := Lib.hid hrd
        have HCL : Hid (∀ W, Below w7.heap.size w7 W → Calls Tryd.prog 31 #[.agg #[.int .i64 acc, .slice A' n' c', .int .i64 clo], .int .i64 qi, .int .i64 D1, .int .i64 q5] W fun e w' => ∃ (A' : Option Addr) (c' n' : Nat), rd.2.1.length = n' ∧ e = .returned (.tuple #[.agg #[.int .i64 rd.1, .slice A' n' c', .int .i64 rd.2.2.1], .int .i64 rd.2.2.2]) ∧ Kd.R k27 27 w' W.heap.size (fun _ => True) (.slice A' n' c') rd.2.1 ∧ Below W.heap.size W w') :=
          Lib.hid fun W hW => rDisp_walk acc clo A' n' c' ps HO7.out.1 qi D1 q5 rd hrd W (Kd.C_below HO7.out.reads hW) HO7.out.2.1 (by omega)
        have HST := Lib.hid hst
        clear fb HS4 HS5 HS0 hq4' hst hlen hm1 hqi hrd
        go_upto_region 12 with (first | fail)
        go_region_held3 (fun w' => w'.cell? ⟨g, 0, none⟩ = some (.int .i64 acc) ∧ w'.cell? ⟨g, 1, none⟩ = some (.slice A' n' c') ∧ w'.cell? ⟨g, 2, none⟩ = some (.int .i64 clo) ∧ w'.cell? ⟨(ad.add (k * 5)).block, (ad.add (k * 5)).off + 3, none⟩ = some (.int .i64 x.f3) ∧ w'.cell? ⟨(ad.add (k * 5)).block, (ad.add (k * 5)).off + 4, none⟩ = some (.int .i64 x.f4)) (first | (with_reducible exact ⟨g0, g1, g2, z3, z4⟩) | (with_reducible exact hkd) | (refine ⟨?_, ?_, ?_, ?_, ?_⟩ <;> (repeat (first | with_reducible exact g0 | with_reducible exact g1 | with_reducible exact g2 | with_reducible exact z3 | with_reducible exact z4 | with_reducible refine c_drewN ?_ | with_reducible refine c_drew ?_ | with_reducible refine far_set hgn ?_ | with_reducible refine far_set hxn ?_ | with_reducible exact hkd.1 | with_reducible exact hkd.2.1 | with_reducible exact hkd.2.2.1 | with_reducible exact hkd.2.2.2.1 | with_reducible exact hkd.2.2.2.2))) | fail) (first | (go_at_call 29; (with_reducible refine (pick_same x.f3 m1 hx3 hm1p qi HQI.out _).mono ?_); rintro e w' ⟨rfl, rfl⟩) | (go_at_call 29; (with_reducible refine (pick_same x.f4 1000 hx4 (by omega) q5 HQ5.out _).mono ?_); rintro e w' ⟨rfl, rfl⟩) | (go_at_call 31; (with_reducible refine (HCL.out _ ?_).mono ?_); (first | exact below_dN (Below.refl _ _) _ | exact below_drew1 (Below.refl _ _)); rintro e w8 ⟨Ad, cd, nd, hnd, rfl, hRd, hb8⟩; have hb8' : Below w7.heap.size w7 w8 := Below.trans (below_dN (Below.refl _ _) 1) hb8; have hkd := And.intro (keepB hb8' g0) (And.intro (keepB hb8' g1) (And.intro (keepB hb8' g2) (And.intro (keepB hb8' z3) (keepB hb8' z4)))); have HN8 := Lib.hid (HNB.out.belowS hb8'); have b0 := HN8.out.cell (j := 0) rfl; have b1 := HN8.out.cell (j := 1) rfl; have b2 := HN8.out.cell (j := 2) rfl; have fb0 := HN8.out.free 0; have fb1 := HN8.out.free 1; have fb2 := HN8.out.free 2) | fail)
        have hdr := HDR.out
        rw [HRD.out] at hdr
        have HND := Lib.hid hnd
        have HB7' := HB7.out.size
        have HO9 := Lib.hid ((HO7.out.below hb8').put3 HN8.out hgn (.int .i64 rd.1) (.slice Ad nd cd) (.int .i64 rd.2.2.1))
        have HN9 := Lib.hid (put3_blk HN8.out (.int .i64 rd.1) (.slice Ad nd cd) (.int .i64 rd.2.2.1))
        have HR9 := Lib.hid (put3_far (HR7.out.belowS hb8') HGN.out.2.1 (.int .i64 rd.1) (.slice Ad nd cd) (.int .i64 rd.2.2.1))
        have HB9 := Lib.hid (res_below (Below.trans HB7.out (hb8'.mono HB7')) HB67.out (.int .i64 rd.1) (.slice Ad nd cd) (.int .i64 rd.2.2.1))
        have HRd9 := Lib.hid (R_put3 hRd HN8.out (.int .i64 rd.1) (.slice Ad nd cd) (.int .i64 rd.2.2.1))
        have HBB : Hid (w.heap.size ≤ w7.drew.heap.size) := Lib.hid HB7'
        clear hnd hRd hb8 hb8' hkd b0 b1 b2 fb0 fb1 fb2 g0 g1 g2 f0 f1 f2 HB7' z0 z3 z4 hwm
        clear HRP HPM HQ3 HQ4 HQ5 HQ6 HQ2 HOK HNB HO7 HR7 HB7 HRp7 HCL HQI HDR HNP
        generalize (((w8.setCell ⟨nb, 0, none⟩ (.int .i64 rd.1)).setCell ⟨nb, 1, none⟩ (.slice Ad nd cd)).setCell ⟨nb, 2, none⟩ (.int .i64 rd.2.2.1)) = w9 at *
        have hst := HST.out
        by_cases he : rd.2.2.2 = 0
        · have hdv := disp_valid hdr he
          rw [if_pos he] at hst
          have HST2 := HNX.out _ hst
          have ce : (rd.2.2.2 == 0) = true := beq_iff_eq.2 he
          have hr1 := hdv.1
          rw [hr1] at HN9
          have n0 := HN9.out.cell (j := 0) rfl
          have n1 := HN9.out.cell (j := 1) rfl
          have n2 := HN9.out.cell (j := 2) rfl
          have g0 := HO9.out.2.2.1.cell (j := 0) rfl
          have g1 := HO9.out.2.2.1.cell (j := 1) rfl
          have g2 := HO9.out.2.2.1.cell (j := 2) rfl
          have f0 := HO9.out.2.2.1.free 0
          have f1 := HO9.out.2.2.1.free 1
          have f2 := HO9.out.2.2.1.free 2
          clear he hdv hst hr1 hdr HNX HST HRD
          go_wp2
          go_roundw
          case rel => exact ⟨k + 1, _, Ad, nd, cd, by omega, by omega, by go_num, HST2, rfl, HO9.out.take HND.out HRd9.out HBB.out, put3_far HR9.out (by omega) _ _ _, res_below HB9.out hle _ _ _⟩
          case measure => simp [intOf]; omega
        · rw [if_neg he] at hst
          have HST2 := HNX.out _ hst
          have ce : (rd.2.2.2 == 0) = false := beq_eq_false_iff_ne.2 he
          clear he hst hdr HNX HST HRD
          go_wp2
          go_roundw
          case rel => exact ⟨k + 1, _, A', n', c', by omega, by omega, by go_num, HST2, rfl, HO9.out, HR9.out, HB9.out⟩
          case measure => simp [intOf]; omega
      · by_cases hq5' : qk = 5
        · have c4 : (qk == 4) = false := beq_eq_false_iff_ne.2 hq4'
          have c5 : (qk == 5) = true := beq_iff_eq.2 hq5'
          have hst := (HS5 hq5').out
          have hgn : g ≠ nb := HGN.out.1
          have hng : nb ≠ g := fun e => HGN.out.1 e.symm
          clear fb HS4 HS5 HS0 hq4' hq5'
          rcases close_cases acc clo ps clo with ⟨hv, _, hc, e⟩ | ⟨hn, e⟩
          · have hcl := rClose_walk acc clo A' n' c' ps HO7.out.1 clo _ e w7 HO7.out.reads HO7.out.2.1 (by omega)
            rw [e, if_pos rfl] at hst
            have HST2 := HNX.out _ hst
            dsimp only at hcl
            have HCL := Lib.hid hcl
            clear hst hv hcl HNX e
            go_wp2_with (first | (go_at_call 32; (with_reducible refine HCL.out.mono ?_); rintro e w8 ⟨Ac, cc, nc, hnc, rfl, hRc, hb8⟩; have HNC := Lib.hid hnc; have HRC := Lib.hid hRc; have HO8 := Lib.hid (HO7.out.below hb8); have HN8 := Lib.hid (HNB.out.belowS hb8); have HR8 := Lib.hid (HR7.out.belowS hb8); have HB8 := Lib.hid (Below.trans HB7.out (hb8.mono HB7.out.size)); have b0 := HN8.out.cell (j := 0) rfl; have b1 := HN8.out.cell (j := 1) rfl; have b2 := HN8.out.cell (j := 2) rfl; have fb0 := HN8.out.free 0; have fb1 := HN8.out.free 1; have fb2 := HN8.out.free 2; have g0 := HO8.out.2.2.1.cell (j := 0) rfl; have g1 := HO8.out.2.2.1.cell (j := 1) rfl; have g2 := HO8.out.2.2.1.cell (j := 2) rfl; have f0 := HO8.out.2.2.1.free 0; have f1 := HO8.out.2.2.1.free 1; have f2 := HO8.out.2.2.1.free 2; clear hnc hRc hb8) | fail)
            go_roundw
            case rel => exact ⟨k + 1, _, Ac, nc, cc, by omega, by omega, by go_num, HST2, rfl, (HO8.out.put3 HN8.out hgn _ _ _).take HNC.out (R_put3 HRC.out HN8.out _ _ _) HB7.out.size, put3_far (put3_far HR8.out HGN.out.2.1 _ _ _) (by omega) _ _ _, res_below (res_below HB8.out HB67.out _ _ _) hle _ _ _⟩
            case measure => simp [intOf]; omega
          · have hcl := rClose_walk acc clo A' n' c' ps HO7.out.1 clo _ e w7 HO7.out.reads HO7.out.2.1 (by omega)
            rw [e, if_neg (by decide)] at hst
            have HST2 := HNX.out _ hst
            simp only [errB] at hcl
            have HCL := Lib.hid hcl
            have hday : day2M D1 errB.2.2.1 = D1 := by unfold day2M min2M errB; simp; omega
            rw [hday] at HST2
            clear hst hn hcl HNX e hday
            go_wp2_with (first | (go_at_call 32; (with_reducible refine HCL.out.mono ?_); rintro e w8 ⟨Ac, cc, nc, hnc, rfl, hRc, hb8⟩; have HNC := Lib.hid hnc; have HRC := Lib.hid hRc; have HO8 := Lib.hid (HO7.out.below hb8); have HN8 := Lib.hid (HNB.out.belowS hb8); have HR8 := Lib.hid (HR7.out.belowS hb8); have HB8 := Lib.hid (Below.trans HB7.out (hb8.mono HB7.out.size)); have b0 := HN8.out.cell (j := 0) rfl; have b1 := HN8.out.cell (j := 1) rfl; have b2 := HN8.out.cell (j := 2) rfl; have fb0 := HN8.out.free 0; have fb1 := HN8.out.free 1; have fb2 := HN8.out.free 2; have g0 := HO8.out.2.2.1.cell (j := 0) rfl; have g1 := HO8.out.2.2.1.cell (j := 1) rfl; have g2 := HO8.out.2.2.1.cell (j := 2) rfl; have f0 := HO8.out.2.2.1.free 0; have f1 := HO8.out.2.2.1.free 1; have f2 := HO8.out.2.2.1.free 2; clear hnc hRc hb8) | fail)
            go_roundw
            case rel => exact ⟨k + 1, _, A', n', c', by omega, by omega, by go_num, HST2, rfl, HO8.out.put3 HN8.out hgn _ _ _, put3_far HR8.out HGN.out.2.1 _ _ _, res_below HB8.out HB67.out _ _ _⟩
            case measure => simp [intOf]; omega
        · have c4 : (qk == 4) = false := beq_eq_false_iff_ne.2 hq4'
          have c5 : (qk == 5) = false := beq_eq_false_iff_ne.2 hq5'
          have hst := (HS0 hq4' hq5').out
          clear fb HS4 HS5 HS0 hq4' hq5'
          rcases post_cases acc clo ps ⟨k1, D1, q2, u3, u5, q6, -1⟩ with ⟨hp, e⟩ | ⟨hp, e⟩
          · rw [HRP.out] at e
            subst e
            rw [if_pos rfl] at hst
            have HST2 := HNX.out _ hst
            clear hst hp HNX
            go_wp2
            go_roundw
            case rel => exact ⟨k + 1, _, Ap, np, cp, by omega, by omega, by go_num, HST2, rfl, HO7.out.take HNP.out HRp7.out HWB.out, put3_far HR7.out (by omega) _ _ _, res_below HB7.out hle _ _ _⟩
            case measure => simp [intOf]; omega
          · rw [HRP.out] at e
            subst e
            rw [if_neg (by decide)] at hst
            have HST2 := HNX.out _ hst
            clear hst hp HNX
            go_wp2
            go_roundw
            case rel => exact ⟨k + 1, _, A', n', c', by omega, by omega, by go_num, HST2, rfl, HO7.out, HR7.out, HB7.out⟩
            case measure => simp [intOf]; omega
    · have htk : l.take k = l.take 24 := by
        by_cases h24 : k = 24
        · rw [h24]
        · have hkn : k = n := by omega
          rw [List.take_of_length_le (by rw [HL.out]; omega), List.take_of_length_le (by rw [HL.out]; omega)]
      have hse : s = (ps, clo, D) := by rw [← HS.out, ← htk, HST.out]
      subst hse
      have g0 := hown.2.2.1.cell (j := 0) rfl
      have g1 := hown.2.2.1.cell (j := 1) rfl
      have g2 := hown.2.2.1.cell (j := 2) rfl
      have r0 := hRw.cell (j := 0) rfl
      have r1 := hRw.cell (j := 1) rfl
      have r2 := hRw.cell (j := 2) rfl
      have f0 := hRw.free 0
      have f1 := hRw.free 1
      have f2 := hRw.free 2
      have HRW := Lib.hid hRw
      have HOWN := Lib.hid hown
      have HBEL := Lib.hid hbel
      clear htk hown hRw hbel HST HS
      by_cases hkn : k < n
      · have hk2 : ¬ k < 24 := by omega
        have d1 : decide ((k : Int) < (n : Int)) = true := decide_eq_true (by omega)
        have d2 : decide ((k : Int) < 24) = false := decide_eq_false (by omega)
        clear hlt
        go_wp2
        refine bodyPost_ret (results_single (r := .cell 4 24) rfl (.cell _ _ _ (0, 0) _ rfl (put3_blk HRW.out (.int .i64 acc) (.slice A' n' c') (.int .i64 clo)) Tryd.underlying24 rfl (by kernel_rfl) .nil)) rfl ?_
        exact ⟨_, rfl, R_put3 HOWN.out.2.2.2 HRW.out _ _ _, res_below HBEL.out (Nat.le_refl _) _ _ _⟩
      · have d1 : decide ((k : Int) < (n : Int)) = false := decide_eq_false (by omega)
        clear hlt
        go_wp2
        refine bodyPost_ret (results_single (r := .cell 4 24) rfl (.cell _ _ _ (0, 0) _ rfl (put3_blk HRW.out (.int .i64 acc) (.slice A' n' c') (.int .i64 clo)) Tryd.underlying24 rfl (by kernel_rfl) .nil)) rfl ?_
        exact ⟨_, rfl, R_put3 HOWN.out.2.2.2 HRW.out _ _ _, res_below HBEL.out (Nat.le_refl _) _ _ _⟩
end Go.Proofs.YtooogaogbffjfaaDoor.Ext
end
section
set_option linter.unusedVariables false
set_option linter.unusedSimpArgs false
namespace Go.Proofs.YtooogaogbffjfaaDoor.Ext
set_option maxRecDepth 100000
open Go.RowKit Go.Proofs.YtooogaogbffjfaaDoorW.PrintWords Go.Proofs.YtooogaogbffjfaaDoorW.PrintLast Go.Proofs.YtooogaogbffjfaaDoorW.PrintMore Go.Proofs.YtooogaogbffjfaaDoor.PK Go.Proofs.YtooogaogbffjfaaDoor.Bk
instance (c : Int) : Decidable (I64 c) := by unfold I64; infer_instance
instance (x : S67) : Decidable (I64x x) := by unfold I64x; infer_instance
def aircheckref24_Made.f (a0 : Int) (l1 : List S67) : Option (Int × List S27 × Int) := if I64 a0 ∧ ∀ x ∈ l1, I64x x then some (madeF a0 l1) else none
theorem aircheckref24_Made.calls (a0 : Int) (A1 : Option Addr) (c1 : Nat) (l1 : List S67) (r1 : Int) (r2 : List S27) (r3 : Int) (w : World) (hr1 : Kd.C k67 w A1 l1.length l1) (hc1 : l1.length ≤ c1) (h : aircheckref24_Made.f a0 l1 = some (r1, r2, r3)) :
    Calls Tryd.prog 8 #[.int .i64 a0, .slice A1 l1.length c1] w fun e w' => ∃ v1_ : Value, e = .returned (.agg #[.int .i64 r1, v1_, .int .i64 r3]) ∧ Kd.R k27 27 w' w.heap.size (fun _ => True) v1_ r2 ∧ Below w.heap.size w w' := by
  unfold aircheckref24_Made.f at h
  split at h
  · rename_i hc
    have h := Option.some.inj h
    unfold madeF at h
    simp only [Prod.mk.injEq] at h
    obtain ⟨rfl, rfl, rfl⟩ := h
    exact Made_walk a0 hc.1 A1 _ c1 l1 rfl hc.2 w hr1 _ rfl _ rfl
  · cases h
end Go.Proofs.YtooogaogbffjfaaDoor.Ext
end
section
namespace Go.Proofs.YtooogaogbffjfaaDoor.Ext
set_option maxRecDepth 100000
open Go.RowKit Go.Deep Go.Joins Go.Proofs.YtooogaogbffjfaaDoorW.PrintWords
def S27.Wf (x : S27) : Prop := W64 x.f0 ∧ W64 x.f1 ∧ W64 x.f2 ∧ W64 x.f3 ∧ W64 x.f4 ∧ W64 x.f5 ∧ W64 x.f6
theorem str27 {H : Type} {enc : TypeId × Value → H} {w : World} {base : Nat} {spare : Nat → Bool} {held : Bool} {fuel : Nat} {cs : List Value} {x : DataW H × List MemPlace}
    (hl : cs.length = 7) (h : DataW.trod enc Tryd.prog w base spare held fuel 27 cs = some x) :
    ∃ p : S27, cs = [.int .i64 p.f0, .int .i64 p.f1, .int .i64 p.f2, .int .i64 p.f3, .int .i64 p.f4, .int .i64 p.f5, .int .i64 p.f6] ∧ p.Wf := by
  have hce : Tryd.prog.cellsOf 3 = 1 := by kernel_rfl
  have he : Tryd.prog.underlying 3 = some (.int .i64) := Tryd.underlying3
  obtain ⟨xs, n, rfl, _, _, hn, hel⟩ := DataW.trod_struct Tryd.underlying27 h
  match xs, hn, cs, hl with
  | [y0, y1, y2, y3, y4, y5, y6], _, [c0, c1, c2, c3, c4, c5, c6], _ =>
    have h0 : DataW.trod enc Tryd.prog w base spare held n 3 (([c0, c1, c2, c3, c4, c5, c6].drop 0).take (Tryd.prog.cellsOf 3)) = some y0 := hel 0 _ rfl
    have h1 : DataW.trod enc Tryd.prog w base spare held n 3 (([c0, c1, c2, c3, c4, c5, c6].drop 1).take (Tryd.prog.cellsOf 3)) = some y1 := hel 1 _ rfl
    have h2 : DataW.trod enc Tryd.prog w base spare held n 3 (([c0, c1, c2, c3, c4, c5, c6].drop 2).take (Tryd.prog.cellsOf 3)) = some y2 := hel 2 _ rfl
    have h3 : DataW.trod enc Tryd.prog w base spare held n 3 (([c0, c1, c2, c3, c4, c5, c6].drop 3).take (Tryd.prog.cellsOf 3)) = some y3 := hel 3 _ rfl
    have h4 : DataW.trod enc Tryd.prog w base spare held n 3 (([c0, c1, c2, c3, c4, c5, c6].drop 4).take (Tryd.prog.cellsOf 3)) = some y4 := hel 4 _ rfl
    have h5 : DataW.trod enc Tryd.prog w base spare held n 3 (([c0, c1, c2, c3, c4, c5, c6].drop 5).take (Tryd.prog.cellsOf 3)) = some y5 := hel 5 _ rfl
    have h6 : DataW.trod enc Tryd.prog w base spare held n 3 (([c0, c1, c2, c3, c4, c5, c6].drop 6).take (Tryd.prog.cellsOf 3)) = some y6 := hel 6 _ rfl
    rw [hce] at h0 h1 h2 h3 h4 h5 h6
    simp only [List.drop, List.take] at h0 h1 h2 h3 h4 h5 h6
    obtain ⟨a0, e0, _, w0⟩ := DataW.trod_int he h0
    obtain ⟨a1, e1, _, w1⟩ := DataW.trod_int he h1
    obtain ⟨a2, e2, _, w2⟩ := DataW.trod_int he h2
    obtain ⟨a3, e3, _, w3⟩ := DataW.trod_int he h3
    obtain ⟨a4, e4, _, w4⟩ := DataW.trod_int he h4
    obtain ⟨a5, e5, _, w5⟩ := DataW.trod_int he h5
    obtain ⟨a6, e6, _, w6⟩ := DataW.trod_int he h6
    simp at e0 e1 e2 e3 e4 e5 e6
    subst e0 e1 e2 e3 e4 e5 e6
    exact ⟨⟨a0, a1, a2, a3, a4, a5, a6⟩, rfl, w0, w1, w2, w3, w4, w5, w6⟩
theorem rows27 {H : Type} {enc : TypeId × Value → H} {w : World} {base : Nat} {spare : Nat → Bool} {held : Bool} {fuel : Nat} {A : Option Addr} {len cap : Nat} {x : DataW H × List MemPlace}
    (h : DataW.trod enc Tryd.prog w base spare held fuel 22 [.slice A len cap] = some x) :
    ∃ l : List S27, len = l.length ∧ Kd.C k27 w A l.length l ∧ l.length ≤ maxLen ∧ (∀ x ∈ l, x.Wf) ∧ l.length ≤ cap := by
  obtain ⟨l, h1, h2, h3, h4⟩ := open_rows (fun (a : S27) cs => k27.K w a cs ∧ a.Wf) 7 z27 Tryd.underlying22 (by kernel_rfl) (fun fuel cs x hl hx => by
    obtain ⟨p, rfl, w⟩ := str27 hl hx
    exact ⟨p, k27_mk _ p, w⟩) h
  obtain ⟨h5, h6⟩ := rows_all h2
  exact ⟨l, h1, h5, h3, h6, h4⟩
theorem open24 {H : Type} {enc : TypeId × Value → H} {w : World} {r : Reach} {b0 base : Nat} {spare : Nat → Bool} {held : Bool} {v : Value} {d : DataW H} {p : List MemPlace}
    (hv : Value.okWide Tryd.prog w r b0 24 v) (h : DataW.Trod enc Tryd.prog w base spare held 24 v d p) :
    ∃ (acc : Int) (A : Option Addr) (cap : Nat) (clo : Int) (l : List S27), v = .agg #[.int .i64 acc, .slice A l.length cap, .int .i64 clo] ∧ Kd.C k27 w A l.length l ∧ l.length ≤ cap := by
  obtain ⟨v0, v1, v2, y0, y1, y2, n, rfl, _, _, h0, h1, h2⟩ := open_agg3 Tryd.underlying24 (by kernel_rfl) (by kernel_rfl) hv h
  obtain ⟨a0, e0, _, _⟩ := DataW.trod_int Tryd.underlying3 h0
  obtain ⟨a2, e2, _, _⟩ := DataW.trod_int Tryd.underlying3 h2
  simp at e0 e2
  subst e0 e2
  have hs : ∃ A len cap, v1 = .slice A len cap := by
    rcases DataW.trod_slice Tryd.underlying22 h1 with ⟨h, _⟩ | ⟨a, len, cap, _, _, _, _, h, _⟩
    · simp at h; exact ⟨_, _, _, h⟩
    · simp at h; exact ⟨_, _, _, h⟩
  obtain ⟨A, len, cap, rfl⟩ := hs
  obtain ⟨l, rfl, hC, _, _, hc⟩ := rows27 h1
  exact ⟨a0, A, cap, a2, l, rfl, hC, hc⟩
theorem open27 {H : Type} {enc : TypeId × Value → H} {w : World} {r : Reach} {b0 base : Nat} {spare : Nat → Bool} {held : Bool} {v : Value} {d : DataW H} {p : List MemPlace}
    (hv : Value.okWide Tryd.prog w r b0 27 v) (h : DataW.Trod enc Tryd.prog w base spare held 27 v d p) :
    ∃ q : S27, v = .agg #[.int .i64 q.f0, .int .i64 q.f1, .int .i64 q.f2, .int .i64 q.f3, .int .i64 q.f4, .int .i64 q.f5, .int .i64 q.f6] ∧ q.Wf := by
  have hv2 := hv
  unfold Value.okWide at hv2
  rw [Tryd.underlying27] at hv2
  obtain ⟨cs, rfl, hsz, _⟩ := hv2
  obtain ⟨fuel, hf⟩ := h
  have hz : cs.size = 7 := hsz.trans (by kernel_rfl)
  have hf2 : DataW.trod enc Tryd.prog w base spare held fuel 27 cs.toList = some (d, p) := hf
  obtain ⟨q, e, hw⟩ := str27 (by simpa using hz) hf2
  refine ⟨q, ?_, hw⟩
  congr 1
  exact Array.toList_inj.1 e
end Go.Proofs.YtooogaogbffjfaaDoor.Ext
end
section
namespace Go.Proofs.YtooogaogbffjfaaDoor.Pure
set_option maxRecDepth 100000
open Go.RowKit Go.Proofs.YtooogaogbffjfaaDoorW.PrintWords Go.Proofs.YtooogaogbffjfaaDoor.Ext Go.Proofs.YtooogaogbffjfaaDoor.Bk Go.Proofs.YtooogaogbffjfaaDoor.PB
theorem i64_wf {c : Int} (h : W64 c) : I64 c := by
  unfold W64 at h
  unfold I64
  simpa [Lit.wf, IntKind.min, IntKind.max, IntKind.signed, IntKind.bits] using h
theorem i64x_wf {l : List S67} (h : ∀ x ∈ l, W64 x.f0 ∧ W64 x.f1 ∧ W64 x.f2 ∧ W64 x.f3 ∧ W64 x.f4) : ∀ x ∈ l, I64x x := fun x hx => by
  obtain ⟨h0, h1, h2, h3, h4⟩ := h x hx
  exact ⟨i64_wf h0, i64_wf h1, i64_wf h2, i64_wf h3, i64_wf h4⟩
end Go.Proofs.YtooogaogbffjfaaDoor.Pure
end
section
namespace Go.Proofs.YtooogaogbffjfaaDoor.PB
open Go.Proofs.YtooogaogbffjfaaDoor.Ext
attribute [local go_sem] u32_signed u32_max
open Go.RowKit Go.Proofs.YtooogaogbffjfaaDoorW.PrintWords Go.Proofs.YtooogaogbffjfaaDoorW.PrintLast Go.Proofs.YtooogaogbffjfaaDoorW.PrintMore
attribute [local go_sem] max2_int min2_int max_two min_two max_three min_three max_four min_four   -- for this text's walks alone
set_option linter.unusedVariables false
set_option linter.unusedSimpArgs false
def book_Balance.f (a0_0 : Int) (l0_1 : List (S27)) (a0_2 : Int) (a1 : Int) (a2 : Int) : Option (Int × Int) := (book_Statement.f a0_0 l0_1 a0_2 a2).bind fun bt102 => (if bt102.2 = 0 then (if a1 < 0 then (some (0, 240)) else (if a1 ≥ (bt102.1.length : Int) then (some (0, 240)) else (if 0 ≤ a1 then (if a1 < (bt102.1.length : Int) then (some (rd bt102.1 a1, 0)) else (none)) else (none)))) else (some (0, 240)))
set_option maxHeartbeats 8000000 in
set_option maxRecDepth 100000 in
theorem book_Balance.calls (a0_0 : Int) (A0_1 : Option Addr) (c0_1 : Nat) (l0_1 : List (S27)) (a0_2 : Int) (a1 : Int) (a2 : Int) (r1 : Int) (r2 : Int) (w : World) (hr0_1 : Kd.C k27 w A0_1 l0_1.length l0_1) (hc0_1 : l0_1.length ≤ c0_1) (h : book_Balance.f a0_0 l0_1 a0_2 a1 a2 = some (r1, r2)) :
  Calls Tryd.prog 22 #[.agg #[.int .i64 a0_0, .slice A0_1 l0_1.length c0_1, .int .i64 a0_2], .int .i64 a1, .int .i64 a2] w fun e w' => e = .returned (.tuple #[.int .i64 r1, .int .i64 r2]) ∧ Below w.heap.size w w' := by
 have hu24 := Tryd.underlying24
 have HR0_1 := Aside0.mk hr0_1
 have HC0_1 := Aside0.mk hc0_1
 clear hr0_1 hc0_1
 have HB := Aside0.mk (Below.refl w.heap.size w)
 have H : ((book_Statement.f a0_0 l0_1 a0_2 a2).bind fun bt102 => (if bt102.2 = 0 then (if a1 < 0 then (some (0, 240)) else (if a1 ≥ (bt102.1.length : Int) then (some (0, 240)) else (if 0 ≤ a1 then (if a1 < (bt102.1.length : Int) then (some (rd bt102.1 a1, 0)) else (none)) else (none)))) else (some (0, 240)))) = some (r1, r2) := h
 clear h
 replace H := Option.bind_eq_some_iff.mp H
 obtain ⟨⟨t102, t105⟩, A40, H⟩ := H
 replace H : (if t105 = 0 then (if a1 < 0 then (some (0, 240)) else (if a1 ≥ (t102.length : Int) then (some (0, 240)) else (if 0 ≤ a1 then (if a1 < (t102.length : Int) then (some (rd t102 a1, 0)) else (none)) else (none)))) else (some (0, 240))) = some (r1, r2) := H
 have A4 := Aside0.mk A40
 clear A40
 by_cases c5 : t105 = 0
 ·rw [if_pos c5] at H
  have c5b0 : (t105 == 0) = true := beq_iff_eq.mpr c5
  have c5b1 : (t105 != 0) = false := bne_eq_false_iff_eq.mpr c5
  clear c5
  by_cases c6 : a1 < 0
  ·rw [if_pos c6] at H
   have c6b0 : decide (a1 < 0) = true := decide_eq_true c6
   clear c6
   simp only [Option.some.injEq, Prod.mk.injEq] at H
   obtain ⟨rfl, rfl⟩ := H
   go_enter Tryd.func22, Tryd.ntmps22
   go_wp2_with (first | ((with_reducible refine gate_dst (N := 3) rfl ?_); (try (refine gate_guard (by rfl) ?_; dsimp only)); refine box_event ?hg (N := 3) ?hd (cs := #[.int .i64 a0_0, .slice A0_1 l0_1.length c0_1, .int .i64 a0_2]) (t := 24) ?hr ?_; (case hd => rfl); (case hg => rfl); (case hr => first | (go_simp; done) | (go_simp; rfl)); intro gb101 hg w7 hbox hb; have n0_ := Aside0.mk (below_step (by repeat (first | (with_reducible first | exact HB.out | apply below_alloc | apply pw_below_drewN | apply below_drew1) | exact HB.out)) hb); have n1_ := Aside0.mk (hbox); have n2_ := Aside0.mk ((by rw [hg]; exact (below_size (by repeat (first | (with_reducible first | exact HB.out | apply below_alloc | apply pw_below_drewN | apply below_drew1) | exact HB.out))) : w.heap.size ≤ gb101)); have n3_ := Aside0.mk ((by rw [hg]; exact (below_size (by repeat (first | (with_reducible first | exact HB.out | apply below_alloc | apply pw_below_drewN | apply below_drew1) | exact HB.out))) : w.heap.size ≤ gb101)); clear HB; have HB := n0_; have BK101 := n1_; have GW101 := n2_; have GE101 := n3_; clear n0_ n1_ n2_ n3_; clear hb hbox hg; have hcz8_0 : w7.cell? ⟨gb101, 0, none⟩ = some (.int .i64 a0_0) := (blk_cell BK101.out 0).trans rfl; have hcz8_1 : w7.cell? ⟨gb101, 1, none⟩ = some (.slice A0_1 l0_1.length c0_1) := (blk_cell BK101.out 1).trans rfl; have hcz8_2 : w7.cell? ⟨gb101, 2, none⟩ = some (.int .i64 a0_2) := (blk_cell BK101.out 2).trans rfl; have hfz8_0 := blk_frozen BK101.out 0; have hfz8_1 := blk_frozen BK101.out 1; have hfz8_2 := blk_frozen BK101.out 2) | ((with_reducible refine gate_callee (f := 18) rfl ?_); refine goesL_ (some 13) rfl rfl Tryd.func18 (by kernel_rfl) rfl #[.agg #[.int .i64 a0_0, .slice A0_1 l0_1.length c0_1, .int .i64 a0_2], .int .i64 a2] rfl (by (try simp only [List.map_toArray, List.map_cons, List.map_nil]); first | done | rfl | (simp only [List.length_drop, List.length_take]; rfl)) ?_; (with_reducible refine (book_Statement.calls a0_0 _ _ l0_1 a0_2 a2 t102 t105 _ ?side1 ?side2 A4.out).mono ?_); (case side1 => repeat (first | exact (Kd.C_below HR0_1.out HB.out) | (with_reducible refine Kd.C_alloc ?_ _) | (with_reducible refine Kd.C_drewN ?_ _) | (with_reducible refine Kd.C_drew ?_))); (case side2 => exact HC0_1.out); rintro e w9 ⟨v103, rfl, ho0, hb⟩; refine ⟨_, rfl, ?_⟩; have n0_ := Aside0.mk (Kd.R_lower ho0 (below_size (by repeat (first | (with_reducible first | exact HB.out | apply below_alloc | apply pw_below_drewN | apply below_drew1 | refine below_set ?_ GE101.out) | exact HB.out)))); have n1_ := Aside0.mk (blk_below (g := gb101) (o := .cells #[.int .i64 a0_0, .slice A0_1 l0_1.length c0_1, .int .i64 a0_2] 24 (0, 0)) (by (with_reducible repeat (first | refine blk_drewN ?_ _ | refine blk_drew ?_ | refine blk_alloc ?_ _)); exact BK101.out) hb); have n2_ := Aside0.mk (below_step (by repeat (first | (with_reducible first | exact HB.out | apply below_alloc | apply pw_below_drewN | apply below_drew1 | refine below_set ?_ GE101.out) | exact HB.out)) hb); clear BK101; clear HB; have HO104 := n0_; have BK101 := n1_; have HB := n2_; clear n0_ n1_ n2_; (try clear hb); (try clear hb2); (try clear hk); (try clear hi); (try clear ho0)))
   go_ret2
   exact ⟨by first | rfl | (simp [errW_none, errW_some] <;> rfl) | (simp [*, errW_none, errW_some] <;> rfl), by repeat (first | (with_reducible first | exact HB.out | apply below_alloc | apply pw_below_drewN | apply below_drew1 | refine below_set ?_ GE101.out) | exact HB.out)⟩
  ·rw [if_neg c6] at H
   have c6b0 : decide (a1 < 0) = false := decide_eq_false c6
   clear c6
   by_cases c10 : a1 ≥ (t102.length : Int)
   ·rw [if_pos c10] at H
    have c10b0 : decide ((t102.length : Int) ≤ a1) = true := decide_eq_true c10
    clear c10
    simp only [Option.some.injEq, Prod.mk.injEq] at H
    obtain ⟨rfl, rfl⟩ := H
    go_enter Tryd.func22, Tryd.ntmps22
    go_wp2_with (first | ((with_reducible refine gate_dst (N := 3) rfl ?_); (try (refine gate_guard (by rfl) ?_; dsimp only)); refine box_event ?hg (N := 3) ?hd (cs := #[.int .i64 a0_0, .slice A0_1 l0_1.length c0_1, .int .i64 a0_2]) (t := 24) ?hr ?_; (case hd => rfl); (case hg => rfl); (case hr => first | (go_simp; done) | (go_simp; rfl)); intro gb101 hg w11 hbox hb; have n0_ := Aside0.mk (below_step (by repeat (first | (with_reducible first | exact HB.out | apply below_alloc | apply pw_below_drewN | apply below_drew1) | exact HB.out)) hb); have n1_ := Aside0.mk (hbox); have n2_ := Aside0.mk ((by rw [hg]; exact (below_size (by repeat (first | (with_reducible first | exact HB.out | apply below_alloc | apply pw_below_drewN | apply below_drew1) | exact HB.out))) : w.heap.size ≤ gb101)); have n3_ := Aside0.mk ((by rw [hg]; exact (below_size (by repeat (first | (with_reducible first | exact HB.out | apply below_alloc | apply pw_below_drewN | apply below_drew1) | exact HB.out))) : w.heap.size ≤ gb101)); clear HB; have HB := n0_; have BK101 := n1_; have GW101 := n2_; have GE101 := n3_; clear n0_ n1_ n2_ n3_; clear hb hbox hg; have hcz12_0 : w11.cell? ⟨gb101, 0, none⟩ = some (.int .i64 a0_0) := (blk_cell BK101.out 0).trans rfl; have hcz12_1 : w11.cell? ⟨gb101, 1, none⟩ = some (.slice A0_1 l0_1.length c0_1) := (blk_cell BK101.out 1).trans rfl; have hcz12_2 : w11.cell? ⟨gb101, 2, none⟩ = some (.int .i64 a0_2) := (blk_cell BK101.out 2).trans rfl; have hfz12_0 := blk_frozen BK101.out 0; have hfz12_1 := blk_frozen BK101.out 1; have hfz12_2 := blk_frozen BK101.out 2) | ((with_reducible refine gate_callee (f := 18) rfl ?_); refine goesL_ (some 13) rfl rfl Tryd.func18 (by kernel_rfl) rfl #[.agg #[.int .i64 a0_0, .slice A0_1 l0_1.length c0_1, .int .i64 a0_2], .int .i64 a2] rfl (by (try simp only [List.map_toArray, List.map_cons, List.map_nil]); first | done | rfl | (simp only [List.length_drop, List.length_take]; rfl)) ?_; (with_reducible refine (book_Statement.calls a0_0 _ _ l0_1 a0_2 a2 t102 t105 _ ?side1 ?side2 A4.out).mono ?_); (case side1 => repeat (first | exact (Kd.C_below HR0_1.out HB.out) | (with_reducible refine Kd.C_alloc ?_ _) | (with_reducible refine Kd.C_drewN ?_ _) | (with_reducible refine Kd.C_drew ?_))); (case side2 => exact HC0_1.out); rintro e w13 ⟨v103, rfl, ho0, hb⟩; refine ⟨_, rfl, ?_⟩; have n0_ := Aside0.mk (Kd.R_lower ho0 (below_size (by repeat (first | (with_reducible first | exact HB.out | apply below_alloc | apply pw_below_drewN | apply below_drew1 | refine below_set ?_ GE101.out) | exact HB.out)))); have n1_ := Aside0.mk (blk_below (g := gb101) (o := .cells #[.int .i64 a0_0, .slice A0_1 l0_1.length c0_1, .int .i64 a0_2] 24 (0, 0)) (by (with_reducible repeat (first | refine blk_drewN ?_ _ | refine blk_drew ?_ | refine blk_alloc ?_ _)); exact BK101.out) hb); have n2_ := Aside0.mk (below_step (by repeat (first | (with_reducible first | exact HB.out | apply below_alloc | apply pw_below_drewN | apply below_drew1 | refine below_set ?_ GE101.out) | exact HB.out)) hb); clear BK101; clear HB; have HO104 := n0_; have BK101 := n1_; have HB := n2_; clear n0_ n1_ n2_; (try clear hb); (try clear hb2); (try clear hk); (try clear hi); (try clear ho0); obtain ⟨Ao14, co14, eo14⟩ := Kd.R_slice HO104.out; subst eo14))
    go_ret2
    exact ⟨by first | rfl | (simp [errW_none, errW_some] <;> rfl) | (simp [*, errW_none, errW_some] <;> rfl), by repeat (first | (with_reducible first | exact HB.out | apply below_alloc | apply pw_below_drewN | apply below_drew1 | refine below_set ?_ GE101.out) | exact HB.out)⟩
   ·rw [if_neg c10] at H
    have c10b0 : decide ((t102.length : Int) ≤ a1) = false := decide_eq_false c10
    clear c10
    by_cases c15 : 0 ≤ a1
    ·rw [if_pos c15] at H
     have c15b0 : decide (0 ≤ a1) = true := decide_eq_true c15
     clear c15
     by_cases c16 : a1 < (t102.length : Int)
     ·rw [if_pos c16] at H
      have c16b0 : decide (a1 < (t102.length : Int)) = true := decide_eq_true c16
      clear c16
      simp only [Option.some.injEq, Prod.mk.injEq] at H
      obtain ⟨rfl, rfl⟩ := H
      go_enter Tryd.func22, Tryd.ntmps22
      go_wp2_with (first | ((with_reducible refine gate_dst (N := 3) rfl ?_); (try (refine gate_guard (by rfl) ?_; dsimp only)); refine box_event ?hg (N := 3) ?hd (cs := #[.int .i64 a0_0, .slice A0_1 l0_1.length c0_1, .int .i64 a0_2]) (t := 24) ?hr ?_; (case hd => rfl); (case hg => rfl); (case hr => first | (go_simp; done) | (go_simp; rfl)); intro gb101 hg w17 hbox hb; have n0_ := Aside0.mk (below_step (by repeat (first | (with_reducible first | exact HB.out | apply below_alloc | apply pw_below_drewN | apply below_drew1) | exact HB.out)) hb); have n1_ := Aside0.mk (hbox); have n2_ := Aside0.mk ((by rw [hg]; exact (below_size (by repeat (first | (with_reducible first | exact HB.out | apply below_alloc | apply pw_below_drewN | apply below_drew1) | exact HB.out))) : w.heap.size ≤ gb101)); have n3_ := Aside0.mk ((by rw [hg]; exact (below_size (by repeat (first | (with_reducible first | exact HB.out | apply below_alloc | apply pw_below_drewN | apply below_drew1) | exact HB.out))) : w.heap.size ≤ gb101)); clear HB; have HB := n0_; have BK101 := n1_; have GW101 := n2_; have GE101 := n3_; clear n0_ n1_ n2_ n3_; clear hb hbox hg; have hcz18_0 : w17.cell? ⟨gb101, 0, none⟩ = some (.int .i64 a0_0) := (blk_cell BK101.out 0).trans rfl; have hcz18_1 : w17.cell? ⟨gb101, 1, none⟩ = some (.slice A0_1 l0_1.length c0_1) := (blk_cell BK101.out 1).trans rfl; have hcz18_2 : w17.cell? ⟨gb101, 2, none⟩ = some (.int .i64 a0_2) := (blk_cell BK101.out 2).trans rfl; have hfz18_0 := blk_frozen BK101.out 0; have hfz18_1 := blk_frozen BK101.out 1; have hfz18_2 := blk_frozen BK101.out 2) | ((with_reducible refine gate_callee (f := 18) rfl ?_); refine goesL_ (some 13) rfl rfl Tryd.func18 (by kernel_rfl) rfl #[.agg #[.int .i64 a0_0, .slice A0_1 l0_1.length c0_1, .int .i64 a0_2], .int .i64 a2] rfl (by (try simp only [List.map_toArray, List.map_cons, List.map_nil]); first | done | rfl | (simp only [List.length_drop, List.length_take]; rfl)) ?_; (with_reducible refine (book_Statement.calls a0_0 _ _ l0_1 a0_2 a2 t102 t105 _ ?side1 ?side2 A4.out).mono ?_); (case side1 => repeat (first | exact (Kd.C_below HR0_1.out HB.out) | (with_reducible refine Kd.C_alloc ?_ _) | (with_reducible refine Kd.C_drewN ?_ _) | (with_reducible refine Kd.C_drew ?_))); (case side2 => exact HC0_1.out); rintro e w19 ⟨v103, rfl, ho0, hb⟩; refine ⟨_, rfl, ?_⟩; have n0_ := Aside0.mk (Kd.R_lower ho0 (below_size (by repeat (first | (with_reducible first | exact HB.out | apply below_alloc | apply pw_below_drewN | apply below_drew1 | refine below_set ?_ GE101.out) | exact HB.out)))); have n1_ := Aside0.mk (blk_below (g := gb101) (o := .cells #[.int .i64 a0_0, .slice A0_1 l0_1.length c0_1, .int .i64 a0_2] 24 (0, 0)) (by (with_reducible repeat (first | refine blk_drewN ?_ _ | refine blk_drew ?_ | refine blk_alloc ?_ _)); exact BK101.out) hb); have n2_ := Aside0.mk (below_step (by repeat (first | (with_reducible first | exact HB.out | apply below_alloc | apply pw_below_drewN | apply below_drew1 | refine below_set ?_ GE101.out) | exact HB.out)) hb); clear BK101; clear HB; have HO104 := n0_; have BK101 := n1_; have HB := n2_; clear n0_ n1_ n2_; (try clear hb); (try clear hb2); (try clear hk); (try clear hi); (try clear ho0); obtain ⟨Ao20, co20, eo20⟩ := Kd.R_slice HO104.out; subst eo20; have p106 : 0 ≤ (a1 : Int) := of_decide_eq_true (by first | (with_reducible assumption) | assumption); have q106 : a1 < (t102.length : Int) := of_decide_eq_true (by first | (with_reducible assumption) | assumption); obtain ⟨ad106, e106, hx106_0⟩ := Kd.at_int (Kd.R_reads' HO104.out).2.2 a1 p106 q106; cases e106; replace p106 := eq_true p106; replace q106 := eq_true q106))
      go_ret2
      exact ⟨by first | rfl | (simp [errW_none, errW_some] <;> rfl) | (simp [*, errW_none, errW_some] <;> rfl), by repeat (first | (with_reducible first | exact HB.out | apply below_alloc | apply pw_below_drewN | apply below_drew1 | refine below_set ?_ GE101.out) | exact HB.out)⟩
     ·rw [if_neg c16] at H
      exact absurd H (by simp)
    ·rw [if_neg c15] at H
     exact absurd H (by simp)
 ·rw [if_neg c5] at H
  have c5b0 : (t105 == 0) = false := beq_eq_false_iff_ne.mpr c5
  have c5b1 : (t105 != 0) = true := bne_iff_ne.mpr c5
  simp only [Option.some.injEq, Prod.mk.injEq] at H
  obtain ⟨rfl, rfl⟩ := H
  go_enter Tryd.func22, Tryd.ntmps22
  go_wp2_with (first | ((with_reducible refine gate_dst (N := 3) rfl ?_); (try (refine gate_guard (by rfl) ?_; dsimp only)); refine box_event ?hg (N := 3) ?hd (cs := #[.int .i64 a0_0, .slice A0_1 l0_1.length c0_1, .int .i64 a0_2]) (t := 24) ?hr ?_; (case hd => rfl); (case hg => rfl); (case hr => first | (go_simp; done) | (go_simp; rfl)); intro gb101 hg w21 hbox hb; have n0_ := Aside0.mk (below_step (by repeat (first | (with_reducible first | exact HB.out | apply below_alloc | apply pw_below_drewN | apply below_drew1) | exact HB.out)) hb); have n1_ := Aside0.mk (hbox); have n2_ := Aside0.mk ((by rw [hg]; exact (below_size (by repeat (first | (with_reducible first | exact HB.out | apply below_alloc | apply pw_below_drewN | apply below_drew1) | exact HB.out))) : w.heap.size ≤ gb101)); have n3_ := Aside0.mk ((by rw [hg]; exact (below_size (by repeat (first | (with_reducible first | exact HB.out | apply below_alloc | apply pw_below_drewN | apply below_drew1) | exact HB.out))) : w.heap.size ≤ gb101)); clear HB; have HB := n0_; have BK101 := n1_; have GW101 := n2_; have GE101 := n3_; clear n0_ n1_ n2_ n3_; clear hb hbox hg; have hcz22_0 : w21.cell? ⟨gb101, 0, none⟩ = some (.int .i64 a0_0) := (blk_cell BK101.out 0).trans rfl; have hcz22_1 : w21.cell? ⟨gb101, 1, none⟩ = some (.slice A0_1 l0_1.length c0_1) := (blk_cell BK101.out 1).trans rfl; have hcz22_2 : w21.cell? ⟨gb101, 2, none⟩ = some (.int .i64 a0_2) := (blk_cell BK101.out 2).trans rfl; have hfz22_0 := blk_frozen BK101.out 0; have hfz22_1 := blk_frozen BK101.out 1; have hfz22_2 := blk_frozen BK101.out 2) | ((with_reducible refine gate_callee (f := 18) rfl ?_); refine goesL_ (some 13) rfl rfl Tryd.func18 (by kernel_rfl) rfl #[.agg #[.int .i64 a0_0, .slice A0_1 l0_1.length c0_1, .int .i64 a0_2], .int .i64 a2] rfl (by (try simp only [List.map_toArray, List.map_cons, List.map_nil]); first | done | rfl | (simp only [List.length_drop, List.length_take]; rfl)) ?_; (with_reducible refine (book_Statement.calls a0_0 _ _ l0_1 a0_2 a2 t102 t105 _ ?side1 ?side2 A4.out).mono ?_); (case side1 => repeat (first | exact (Kd.C_below HR0_1.out HB.out) | (with_reducible refine Kd.C_alloc ?_ _) | (with_reducible refine Kd.C_drewN ?_ _) | (with_reducible refine Kd.C_drew ?_))); (case side2 => exact HC0_1.out); rintro e w23 ⟨v103, rfl, ho0, hb⟩; refine ⟨_, rfl, ?_⟩; have n0_ := Aside0.mk (Kd.R_lower ho0 (below_size (by repeat (first | (with_reducible first | exact HB.out | apply below_alloc | apply pw_below_drewN | apply below_drew1 | refine below_set ?_ GE101.out) | exact HB.out)))); have n1_ := Aside0.mk (blk_below (g := gb101) (o := .cells #[.int .i64 a0_0, .slice A0_1 l0_1.length c0_1, .int .i64 a0_2] 24 (0, 0)) (by (with_reducible repeat (first | refine blk_drewN ?_ _ | refine blk_drew ?_ | refine blk_alloc ?_ _)); exact BK101.out) hb); have n2_ := Aside0.mk (below_step (by repeat (first | (with_reducible first | exact HB.out | apply below_alloc | apply pw_below_drewN | apply below_drew1 | refine below_set ?_ GE101.out) | exact HB.out)) hb); clear BK101; clear HB; have HO104 := n0_; have BK101 := n1_; have HB := n2_; clear n0_ n1_ n2_; (try clear hb); (try clear hb2); (try clear hk); (try clear hi); (try clear ho0)))
  go_ret2
  exact ⟨by first | rfl | (simp [errW_none, errW_some] <;> rfl) | (simp [*, errW_none, errW_some] <;> rfl), by repeat (first | (with_reducible first | exact HB.out | apply below_alloc | apply pw_below_drewN | apply below_drew1 | refine below_set ?_ GE101.out) | exact HB.out)⟩
end Go.Proofs.YtooogaogbffjfaaDoor.PB
end
section
namespace Go.Proofs.YtooogaogbffjfaaDoor.PB
open Go.Proofs.YtooogaogbffjfaaDoor.Ext
attribute [local go_sem] u32_signed u32_max
open Go.RowKit Go.Proofs.YtooogaogbffjfaaDoorW.PrintWords Go.Proofs.YtooogaogbffjfaaDoorW.PrintLast Go.Proofs.YtooogaogbffjfaaDoorW.PrintMore
attribute [local go_sem] max2_int min2_int max_two min_two max_three min_three max_four min_four   -- for this text's walks alone
set_option linter.unusedVariables false
set_option linter.unusedSimpArgs false
def aircheckref24_Ints.l0 : Nat → List Int → List Int → Int → Option (Bool)
 | 0, _, _, _ => none
 | k + 1, x0, x1, x5 => if x5 < (x0.length : Int) then (if 0 ≤ x5 then (if x5 < (x1.length : Int) then (if (rd x0 x5) = (rd x1 x5) then (aircheckref24_Ints.l0 k x0 x1 (wrap64 (x5 + 1))) else (some false)) else (none)) else (none)) else (some true)
def aircheckref24_Ints.f (k : Nat) (l0 : List Int) (l1 : List Int) : Option (Bool) := if (l0.length : Int) = (l1.length : Int) then (aircheckref24_Ints.l0 k l0 l1 0) else (some false)
set_option maxHeartbeats 8000000 in
set_option maxRecDepth 100000 in
theorem aircheckref24_Ints.calls (k : Nat) (A0 : Option Addr) (c0 : Nat) (l0 : List Int) (A1 : Option Addr) (c1 : Nat) (l1 : List Int) (r : Bool) (w : World) (hr0 : Kd.C (Kd.int .i64) w A0 l0.length l0) (hc0 : l0.length ≤ c0) (hr1 : Kd.C (Kd.int .i64) w A1 l1.length l1) (hc1 : l1.length ≤ c1) (h : aircheckref24_Ints.f k l0 l1 = some r) :
  Calls Tryd.prog 23 #[.slice A0 l0.length c0, .slice A1 l1.length c1] w fun e w' => e = .returned (.bool r) ∧ Drawn0 w w' := by
 have HR0 := Aside0.mk hr0
 have HC0 := Aside0.mk hc0
 clear hr0 hc0
 have HR1 := Aside0.mk hr1
 have HC1 := Aside0.mk hc1
 clear hr1 hc1
 have H : (if (l0.length : Int) = (l1.length : Int) then (aircheckref24_Ints.l0 k l0 l1 0) else (some false)) = some r := h
 clear h
 by_cases c3 : (l0.length : Int) = (l1.length : Int)
 ·rw [if_pos c3] at H
  have c3b0 : ((l0.length : Int) == (l1.length : Int)) = true := beq_iff_eq.mpr c3
  have c3b1 : ((l0.length : Int) != (l1.length : Int)) = false := bne_eq_false_iff_eq.mpr c3
  have c3b2 : (l0.length == l1.length) = true := by first | simpa using c3 | (simp at c3 ⊢; omega)
  clear c3
  have H' := Aside0.mk H
  clear H
  go_enter Tryd.func23, Tryd.ntmps23
  go_wp2
  repeat (go_quiet (fail); try go_wp2)
  go_loopg [5] k (fun kq v5 w' => ∃ (x5_1 : Int), v5 = .int .i64 x5_1 ∧ Aside0 (aircheckref24_Ints.l0 kq l0 l1 x5_1 = some r) ∧ Aside0 (kq ≤ k) ∧ Drawn0 w w')
  case atStart => exact ⟨(0), (by first | rfl | (simp; done) | (simp [*]; done)), H', ⟨Nat.le_refl _⟩, by repeat (first | exact Drawn0.refl _ | apply Drawn0.step)⟩
  case round =>
   clear H'
   try clear c1
   try clear c2
   try clear p2
   try clear c3
   try clear c3b0
   try clear c3b1
   try clear c3b2
   obtain ⟨x5_1, rfl, HA, HK1, ⟨m1, rfl⟩⟩ := hrel
   cases gk with
   | zero => exact absurd HA.out (by simp [aircheckref24_Ints.l0])
   | succ k1 =>
    have H := HA.out
    clear HA
    simp only [aircheckref24_Ints.l0] at H
    by_cases c4 : x5_1 < (l0.length : Int)
    ·rw [if_pos c4] at H
     have c4b0 : decide (x5_1 < (l0.length : Int)) = true := decide_eq_true c4
     clear c4
     by_cases c5 : 0 ≤ x5_1
     ·rw [if_pos c5] at H
      have c5b0 : decide (0 ≤ x5_1) = true := decide_eq_true c5
      clear c5
      by_cases c6 : x5_1 < (l1.length : Int)
      ·rw [if_pos c6] at H
       have c6b0 : decide (x5_1 < (l1.length : Int)) = true := decide_eq_true c6
       clear c6
       by_cases c7 : (rd l0 x5_1) = (rd l1 x5_1)
       ·rw [if_pos c7] at H
        have c7b0 : ((rd l0 x5_1) == (rd l1 x5_1)) = true := beq_iff_eq.mpr c7
        have c7b1 : ((rd l0 x5_1) != (rd l1 x5_1)) = false := bne_eq_false_iff_eq.mpr c7
        clear c7
        have H' := Aside0.mk H
        clear H
        have p107 : 0 ≤ (x5_1 : Int) := of_decide_eq_true (by first | (with_reducible assumption) | assumption)
        have q107 : x5_1 < (l0.length : Int) := of_decide_eq_true (by first | (with_reducible assumption) | assumption)
        obtain ⟨ad107, e107, hx107_0⟩ := Kd.at_int HR0.out x5_1 p107 q107
        cases e107
        replace p107 := eq_true p107
        replace q107 := eq_true q107
        have p108 : 0 ≤ (x5_1 : Int) := of_decide_eq_true (by first | (with_reducible assumption) | assumption)
        have q108 : x5_1 < (l1.length : Int) := of_decide_eq_true (by first | (with_reducible assumption) | assumption)
        obtain ⟨ad108, e108, hx108_0⟩ := Kd.at_int HR1.out x5_1 p108 q108
        cases e108
        replace p108 := eq_true p108
        replace q108 := eq_true q108
        go_wp2
        repeat (go_quiet (fail); try go_wp2)
        go_roundg k1
        case measure => have := HK1.out; omega
        case rel => exact ⟨(wrap64 (x5_1 + 1)), (by first | rfl | (simp; done) | (simp [*]; done)), H', ⟨by have := HK1.out; omega⟩, by repeat (first | exact Drawn0.refl _ | apply Drawn0.step)⟩
       ·rw [if_neg c7] at H
        have c7b0 : ((rd l0 x5_1) == (rd l1 x5_1)) = false := beq_eq_false_iff_ne.mpr c7
        have c7b1 : ((rd l0 x5_1) != (rd l1 x5_1)) = true := bne_iff_ne.mpr c7
        obtain rfl := Option.some.inj H
        have p107 : 0 ≤ (x5_1 : Int) := of_decide_eq_true (by first | (with_reducible assumption) | assumption)
        have q107 : x5_1 < (l0.length : Int) := of_decide_eq_true (by first | (with_reducible assumption) | assumption)
        obtain ⟨ad107, e107, hx107_0⟩ := Kd.at_int HR0.out x5_1 p107 q107
        cases e107
        replace p107 := eq_true p107
        replace q107 := eq_true q107
        have p108 : 0 ≤ (x5_1 : Int) := of_decide_eq_true (by first | (with_reducible assumption) | assumption)
        have q108 : x5_1 < (l1.length : Int) := of_decide_eq_true (by first | (with_reducible assumption) | assumption)
        obtain ⟨ad108, e108, hx108_0⟩ := Kd.at_int HR1.out x5_1 p108 q108
        cases e108
        replace p108 := eq_true p108
        replace q108 := eq_true q108
        go_wp2
        repeat (go_quiet (fail); try go_wp2)
        go_ret
        exact ⟨by first | rfl | (simp; done) | (simp [*]; done), by repeat (first | exact Drawn0.refl _ | apply Drawn0.step)⟩
      ·rw [if_neg c6] at H
       exact absurd H (by simp)
     ·rw [if_neg c5] at H
      exact absurd H (by simp)
    ·rw [if_neg c4] at H
     have c4b0 : decide (x5_1 < (l0.length : Int)) = false := decide_eq_false c4
     clear c4
     obtain rfl := Option.some.inj H
     go_wp2
     repeat (go_quiet (fail); try go_wp2)
     go_ret
     exact ⟨by first | rfl | (simp; done) | (simp [*]; done), by repeat (first | exact Drawn0.refl _ | apply Drawn0.step)⟩
 ·rw [if_neg c3] at H
  have c3b0 : ((l0.length : Int) == (l1.length : Int)) = false := beq_eq_false_iff_ne.mpr c3
  have c3b1 : ((l0.length : Int) != (l1.length : Int)) = true := bne_iff_ne.mpr c3
  have c3b2 : (l0.length == l1.length) = false := by first | simpa using c3 | (simp at c3 ⊢; omega)
  obtain rfl := Option.some.inj H
  go_enter Tryd.func23, Tryd.ntmps23
  go_wp2
  repeat (go_quiet (fail); try go_wp2)
  go_ret
  exact ⟨by first | rfl | (simp; done) | (simp [*]; done), by repeat (first | exact Drawn0.refl _ | apply Drawn0.step)⟩
end Go.Proofs.YtooogaogbffjfaaDoor.PB
end
section
namespace Go.Proofs.YtooogaogbffjfaaDoor.PB
open Go.Proofs.YtooogaogbffjfaaDoor.Ext
attribute [local go_sem] u32_signed u32_max
open Go.RowKit Go.Proofs.YtooogaogbffjfaaDoorW.PrintWords Go.Proofs.YtooogaogbffjfaaDoorW.PrintLast Go.Proofs.YtooogaogbffjfaaDoorW.PrintMore
attribute [local go_sem] max2_int min2_int max_two min_two max_three min_three max_four min_four   -- for this text's walks alone
set_option linter.unusedVariables false
set_option linter.unusedSimpArgs false
theorem eqA27 (d : Nat) (w : World) (x0 y0 : Int) (x1 y1 : Int) (x2 y2 : Int) (x3 y3 : Int) (x4 y4 : Int) (x5 y5 : Int) (x6 y6 : Int) :
  (Op.equalIn (d + 2) 27 (.agg #[.int .i64 x0, .int .i64 x1, .int .i64 x2, .int .i64 x3, .int .i64 x4, .int .i64 x5, .int .i64 x6]) (.agg #[.int .i64 y0, .int .i64 y1, .int .i64 y2, .int .i64 y3, .int .i64 y4, .int .i64 y5, .int .i64 y6])).run Tryd.prog w = .ok (x0 == y0 && (x1 == y1 && (x2 == y2 && (x3 == y3 && (x4 == y4 && (x5 == y5 && (x6 == y6))))))) w := by
 refine eqA_of Tryd.underlying27 (by kernel_rfl) ?_
 refine eqf_cons (by rfl) (by go_simp; rfl) (by go_simp; rfl) (by go_simp) ?_
 refine eqf_cons (by rfl) (by go_simp; rfl) (by go_simp; rfl) (by go_simp) ?_
 refine eqf_cons (by rfl) (by go_simp; rfl) (by go_simp; rfl) (by go_simp) ?_
 refine eqf_cons (by rfl) (by go_simp; rfl) (by go_simp; rfl) (by go_simp) ?_
 refine eqf_cons (by rfl) (by go_simp; rfl) (by go_simp; rfl) (by go_simp) ?_
 refine eqf_cons (by rfl) (by go_simp; rfl) (by go_simp; rfl) (by go_simp) ?_
 exact eqf_last (by rfl) (by go_simp; rfl) (by go_simp; rfl) (by go_simp)
end Go.Proofs.YtooogaogbffjfaaDoor.PB
end
