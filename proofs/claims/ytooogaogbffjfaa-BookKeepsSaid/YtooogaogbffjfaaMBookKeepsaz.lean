import Derived.Test.YtooogaogbffjfaaMBookKeepsap
import Derived.Test.YtooogaogbffjfaaMBookKeepsax
import Derived.Test.YtooogaogbffjfaaMBookKeepsay
import Derived.Test.YtooogaogbffjfaaMBookKeepsae
/-
  Texts of this claim, one behind the other: what they prove stands above each.
-/
section
-- Written by a program of this session out of the translation's print; not trusted: checked by the kernel.
namespace Go.Proofs.Ytooogaogbffjfaa.PB
open Go.Proofs.Ytooogaogbffjfaa.Ext
open Go.RowKit Go.Proofs.YtooogaogbffjfaaW.PrintWords Go.Proofs.YtooogaogbffjfaaW.PrintLast Go.Proofs.YtooogaogbffjfaaW.PrintMore
attribute [local go_sem] max2_int min2_int max_two min_two max_three min_three max_four min_four   -- for this text's walks alone
set_option linter.unusedVariables false
set_option linter.unusedSimpArgs false
/-! ### aircheckref24_Ints: function 23 -/
def aircheckref24_Ints.l0 : Nat → List Int → List Int → Int → Option (Bool)
 | 0, _, _, _ => none
 | k + 1, x0, x1, x5 => if x5 < (x0.length : Int) then (if 0 ≤ x5 then (if x5 < (x1.length : Int) then (if (rd x0 x5) = (rd x1 x5) then (aircheckref24_Ints.l0 k x0 x1 (wrap64 (x5 + 1))) else (some false)) else (none)) else (none)) else (some true)
def aircheckref24_Ints.f (k : Nat) (l0 : List Int) (l1 : List Int) : Option (Bool) := if (l0.length : Int) = (l1.length : Int) then (aircheckref24_Ints.l0 k l0 l1 0) else (some false)
set_option maxHeartbeats 8000000 in
set_option maxRecDepth 100000 in
theorem aircheckref24_Ints.calls (k : Nat) (A0 : Option Addr) (c0 : Nat) (l0 : List Int) (A1 : Option Addr) (c1 : Nat) (l1 : List Int) (r : Bool) (w : World) (hr0 : Kd.C (Kd.int .i64) w A0 l0.length l0) (hc0 : l0.length ≤ c0) (hr1 : Kd.C (Kd.int .i64) w A1 l1.length l1) (hc1 : l1.length ≤ c1) (h : aircheckref24_Ints.f k l0 l1 = some r) :
  Calls Try.prog 23 #[.slice A0 l0.length c0, .slice A1 l1.length c1] w fun e w' => e = .returned (.bool r) ∧ Drawn0 w w' := by
 have HR0 := Aside0.mk hr0
 have HC0 := Aside0.mk hc0
 clear hr0 hc0
 have HR1 := Aside0.mk hr1
 have HC1 := Aside0.mk hc1
 clear hr1 hc1
 have H : (if (l0.length : Int) = (l1.length : Int) then (aircheckref24_Ints.l0 k l0 l1 0) else (some false)) = some r := h
 clear h
 by_cases c3 : (l0.length : Int) = (l1.length : Int)
 ·rw [if_pos c3] at H
  have c3b0 : ((l0.length : Int) == (l1.length : Int)) = true := beq_iff_eq.mpr c3
  have c3b1 : ((l0.length : Int) != (l1.length : Int)) = false := bne_eq_false_iff_eq.mpr c3
  have c3b2 : (l0.length == l1.length) = true := by first | simpa using c3 | (simp at c3 ⊢; omega)
  clear c3
  have H' := Aside0.mk H
  clear H
  go_enter Try.func23, Try.ntmps23
  go_wp2
  repeat (go_quiet (fail); try go_wp2)
  go_loopg [5] k (fun kq v5 w' => ∃ (x5_1 : Int), v5 = .int .i64 x5_1 ∧ Aside0 (aircheckref24_Ints.l0 kq l0 l1 x5_1 = some r) ∧ Aside0 (kq ≤ k) ∧ Drawn0 w w')
  case atStart => exact ⟨(0), (by first | rfl | (simp; done) | (simp [*]; done)), H', ⟨Nat.le_refl _⟩, by repeat (first | exact Drawn0.refl _ | apply Drawn0.step)⟩
  case round =>
   clear H'
   try clear c1
   try clear c2
   try clear p2
   try clear c3
   try clear c3b0
   try clear c3b1
   try clear c3b2
   obtain ⟨x5_1, rfl, HA, HK1, ⟨m1, rfl⟩⟩ := hrel
   cases gk with
   | zero => exact absurd HA.out (by simp [aircheckref24_Ints.l0])
   | succ k1 =>
    have H := HA.out
    clear HA
    simp only [aircheckref24_Ints.l0] at H
    by_cases c4 : x5_1 < (l0.length : Int)
    ·rw [if_pos c4] at H
     have c4b0 : decide (x5_1 < (l0.length : Int)) = true := decide_eq_true c4
     clear c4
     by_cases c5 : 0 ≤ x5_1
     ·rw [if_pos c5] at H
      have c5b0 : decide (0 ≤ x5_1) = true := decide_eq_true c5
      clear c5
      by_cases c6 : x5_1 < (l1.length : Int)
      ·rw [if_pos c6] at H
       have c6b0 : decide (x5_1 < (l1.length : Int)) = true := decide_eq_true c6
       clear c6
       by_cases c7 : (rd l0 x5_1) = (rd l1 x5_1)
       ·rw [if_pos c7] at H
        have c7b0 : ((rd l0 x5_1) == (rd l1 x5_1)) = true := beq_iff_eq.mpr c7
        have c7b1 : ((rd l0 x5_1) != (rd l1 x5_1)) = false := bne_eq_false_iff_eq.mpr c7
        clear c7
        have H' := Aside0.mk H
        clear H
        have p107 : 0 ≤ (x5_1 : Int) := of_decide_eq_true (by first | (with_reducible assumption) | assumption)
        have q107 : x5_1 < (l0.length : Int) := of_decide_eq_true (by first | (with_reducible assumption) | assumption)
        obtain ⟨ad107, e107, hx107_0⟩ := Kd.at_int HR0.out x5_1 p107 q107
        cases e107
        replace p107 := eq_true p107
        replace q107 := eq_true q107
        have p108 : 0 ≤ (x5_1 : Int) := of_decide_eq_true (by first | (with_reducible assumption) | assumption)
        have q108 : x5_1 < (l1.length : Int) := of_decide_eq_true (by first | (with_reducible assumption) | assumption)
        obtain ⟨ad108, e108, hx108_0⟩ := Kd.at_int HR1.out x5_1 p108 q108
        cases e108
        replace p108 := eq_true p108
        replace q108 := eq_true q108
        go_wp2
        repeat (go_quiet (fail); try go_wp2)
        go_roundg k1
        case measure => have := HK1.out; omega
        case rel => exact ⟨(wrap64 (x5_1 + 1)), (by first | rfl | (simp; done) | (simp [*]; done)), H', ⟨by have := HK1.out; omega⟩, by repeat (first | exact Drawn0.refl _ | apply Drawn0.step)⟩
       ·rw [if_neg c7] at H
        have c7b0 : ((rd l0 x5_1) == (rd l1 x5_1)) = false := beq_eq_false_iff_ne.mpr c7
        have c7b1 : ((rd l0 x5_1) != (rd l1 x5_1)) = true := bne_iff_ne.mpr c7
        obtain rfl := Option.some.inj H
        have p107 : 0 ≤ (x5_1 : Int) := of_decide_eq_true (by first | (with_reducible assumption) | assumption)
        have q107 : x5_1 < (l0.length : Int) := of_decide_eq_true (by first | (with_reducible assumption) | assumption)
        obtain ⟨ad107, e107, hx107_0⟩ := Kd.at_int HR0.out x5_1 p107 q107
        cases e107
        replace p107 := eq_true p107
        replace q107 := eq_true q107
        have p108 : 0 ≤ (x5_1 : Int) := of_decide_eq_true (by first | (with_reducible assumption) | assumption)
        have q108 : x5_1 < (l1.length : Int) := of_decide_eq_true (by first | (with_reducible assumption) | assumption)
        obtain ⟨ad108, e108, hx108_0⟩ := Kd.at_int HR1.out x5_1 p108 q108
        cases e108
        replace p108 := eq_true p108
        replace q108 := eq_true q108
        go_wp2
        repeat (go_quiet (fail); try go_wp2)
        go_ret
        exact ⟨by first | rfl | (simp; done) | (simp [*]; done), by repeat (first | exact Drawn0.refl _ | apply Drawn0.step)⟩
      ·rw [if_neg c6] at H
       exact absurd H (by simp)
     ·rw [if_neg c5] at H
      exact absurd H (by simp)
    ·rw [if_neg c4] at H
     have c4b0 : decide (x5_1 < (l0.length : Int)) = false := decide_eq_false c4
     clear c4
     obtain rfl := Option.some.inj H
     go_wp2
     repeat (go_quiet (fail); try go_wp2)
     go_ret
     exact ⟨by first | rfl | (simp; done) | (simp [*]; done), by repeat (first | exact Drawn0.refl _ | apply Drawn0.step)⟩
 ·rw [if_neg c3] at H
  have c3b0 : ((l0.length : Int) == (l1.length : Int)) = false := beq_eq_false_iff_ne.mpr c3
  have c3b1 : ((l0.length : Int) != (l1.length : Int)) = true := bne_iff_ne.mpr c3
  have c3b2 : (l0.length == l1.length) = false := by first | simpa using c3 | (simp at c3 ⊢; omega)
  obtain rfl := Option.some.inj H
  go_enter Try.func23, Try.ntmps23
  go_wp2
  repeat (go_quiet (fail); try go_wp2)
  go_ret
  exact ⟨by first | rfl | (simp; done) | (simp [*]; done), by repeat (first | exact Drawn0.refl _ | apply Drawn0.step)⟩
end Go.Proofs.Ytooogaogbffjfaa.PB
end
section
/-
  Books that hold: what the laws ask of them.
-/
set_option linter.unusedVariables false
set_option linter.unusedSimpArgs false
namespace Go.Proofs.Ytooogaogbffjfaa.Pure
open Go.RowKit Go.Proofs.YtooogaogbffjfaaW.PrintWords Go.Proofs.YtooogaogbffjfaaW.PrintLast Go.Proofs.YtooogaogbffjfaaW.PrintMore Go.Proofs.Ytooogaogbffjfaa.Ext Go.Proofs.Ytooogaogbffjfaa.Bk Go.Proofs.Ytooogaogbffjfaa.PB
theorem ints_loop (a : List Int) (hn : a.length ≤ 1000000) : ∀ (d i k : Nat), a.length - i = d → i ≤ a.length → d < k → aircheckref24_Ints.l0 k a a (i : Int) = some true := by
  intro d
  induction d with
  | zero =>
    intro i k hd hi hk
    obtain ⟨k, rfl⟩ : ∃ q, k = q + 1 := ⟨k - 1, by omega⟩
    rw [aircheckref24_Ints.l0, if_neg (by omega)]
  | succ d ih =>
    intro i k hd hi hk
    obtain ⟨k, rfl⟩ : ∃ q, k = q + 1 := ⟨k - 1, by omega⟩
    rw [aircheckref24_Ints.l0, if_pos (by omega), if_pos (by omega), if_pos (by omega), if_pos rfl, w1 (show i < a.length by omega) hn]
    exact ih (i + 1) k (by omega) (by omega) (by omega)
theorem ints_same (k : Nat) (a : List Int) (hn : a.length ≤ 1000000) (hk : a.length < k) : aircheckref24_Ints.f k a a = some true := by
  unfold aircheckref24_Ints.f
  rw [if_pos rfl]
  exact ints_loop a hn a.length 0 k (by omega) (by omega) hk
/-- a book of Made -/
structure BookOk (n : Nat) (ps : List S27) (clo : Int) : Prop where
  v : validB (n : Int) ps clo = true
  s : ∀ p ∈ ps, 0 ≤ p.f5 ∧ p.f5 ≤ 5
theorem BookOk.acc {n : Nat} {ps : List S27} {clo : Int} (h : BookOk n ps clo) : 2 ≤ n ∧ n ≤ 16 := by have := valid_acc h.v; omega
theorem BookOk.len {n : Nat} {ps : List S27} {clo : Int} (h : BookOk n ps clo) : ps.length ≤ 200 := valid_len h.v
theorem BookOk.b1 {n : Nat} {ps : List S27} {clo : Int} (h : BookOk n ps clo) : ∀ p ∈ ps, Book1 p := valid_book1 h.v
theorem BookOk.st {n : Nat} {ps : List S27} {clo : Int} (h : BookOk n ps clo) (m : Int) (hm : 0 ≤ m ∧ m ≤ 11) : book_Statement.f (n : Int) ps clo m = some (L n (fun t => tot (thoseL (stF m) 0 ps) (t : Int)), 0) := by
  have hl := h.len
  have ha := h.acc
  unfold book_Statement.f stmtF
  rw [if_pos (by omega), h.v, decide_eq_true hm, Int.toNat_natCast, stL_L m ps h.b1 n ha.2]
  rfl
/-- the subjects of a book of Made -/
theorem step_sub (acc : Int) (s : MS) (x : S48) (h : ∀ p ∈ s.1, 0 ≤ p.f5 ∧ p.f5 ≤ 5) : ∀ p ∈ (stepM acc s x).1, 0 ≤ p.f5 ∧ p.f5 ≤ 5 := by
  have hrd : ∀ i : Int, 0 ≤ i ∧ i < (s.1.length : Int) → 0 ≤ (rd_T27 s.1 i).f5 ∧ (rd_T27 s.1 i).f5 ≤ 5 := fun i hi => by
    obtain ⟨o, rfl⟩ := Int.eq_ofNat_of_zero_le hi.1
    exact h _ (rd_mem s.1 o (by omega))
  unfold stepM
  by_cases e4 : pk x.f0 6 = 4
  · rw [if_pos e4]
    have hd := disp_cases acc s.2.1 s.1 (pk x.f3 ((s.1.length : Int) + 1)) (dayM s.2.2 x) (pk x.f4 1000)
    generalize dispF acc s.1 s.2.1 (pk x.f3 ((s.1.length : Int) + 1)) (dayM s.2.2 x) (pk x.f4 1000) = r at *
    by_cases e : r.2.2.2 = 0
    · rw [if_pos e]
      cases hd with
      | zero hv hi ha h1 =>
        intro p hp
        rcases List.mem_append.1 hp with hp | hp
        · exact h p hp
        · rw [List.mem_singleton] at hp; subst hp; exact hrd _ hi
      | more hv hi ha h1 h2 =>
        intro p hp
        rcases List.mem_append.1 hp with hp | hp
        · rcases List.mem_append.1 hp with hp | hp
          · exact h p hp
          · rw [List.mem_singleton] at hp; subst hp; exact hrd _ hi
        · rw [List.mem_singleton] at hp; subst hp; exact hrd _ hi
      | err hn => exact absurd e (by decide)
    · rw [if_neg e]; exact h
  · rw [if_neg e4]
    by_cases e5 : pk x.f0 6 = 5
    · rw [if_pos e5]
      rcases close_cases acc s.2.1 s.1 s.2.1 with ⟨_, _, hc, e⟩ | ⟨_, e⟩
      · rw [e]; exact h
      · rw [e]; exact h
    · rw [if_neg e5]
      rcases post_cases acc s.2.1 s.1 (postM acc (dayM s.2.2 x) x) with ⟨hp, e⟩ | ⟨_, e⟩
      · rw [e]
        intro p hp
        rcases List.mem_append.1 hp with hp | hp
        · exact h p hp
        · rw [List.mem_singleton] at hp; subst hp
          have := pk_bound x.f4 6 (by omega)
          show 0 ≤ pk x.f4 6 ∧ pk x.f4 6 ≤ 5
          omega
      · rw [e]; exact h
theorem run_sub (acc : Int) (l : List S48) : ∀ p ∈ (runM acc l).1, 0 ≤ p.f5 ∧ p.f5 ≤ 5 := by
  generalize hm : l.length = m
  induction m generalizing l with
  | zero =>
    have : l = [] := List.eq_nil_of_length_eq_zero hm
    subst this
    intro p hp; cases hp
  | succ m ih =>
    rcases List.eq_nil_or_concat l with rfl | ⟨l, x, rfl⟩
    · simp at hm
    · rw [List.concat_eq_append] at *
      rw [runM_snoc]
      exact step_sub acc _ x (ih l (by simpa using hm))
theorem made_ok (a : Int) (l : List S48) : BookOk (accM a).toNat (madeF a l).2.1 (madeF a l).2.2 := by
  have hb := accM_bound a
  have h := run_ok (accM a) hb (l.take 24)
  exact ⟨by rw [show (((accM a).toNat : Nat) : Int) = accM a by omega]; exact h.1, run_sub _ _⟩
theorem i64_wf {c : Int} (h : W64 c) : I64 c := by
  unfold W64 at h
  unfold I64
  simpa [Lit.wf, IntKind.min, IntKind.max, IntKind.signed, IntKind.bits] using h
theorem i64x_wf {l : List S48} (h : ∀ x ∈ l, W64 x.f0 ∧ W64 x.f1 ∧ W64 x.f2 ∧ W64 x.f3 ∧ W64 x.f4) : ∀ x ∈ l, I64x x := fun x hx => by
  obtain ⟨h0, h1, h2, h3, h4⟩ := h x hx
  exact ⟨i64_wf h0, i64_wf h1, i64_wf h2, i64_wf h3, i64_wf h4⟩
end Go.Proofs.Ytooogaogbffjfaa.Pure
end
section
/-
  The contracts of package book and of its reference, in the form in which walks by hand use them.
-/
set_option linter.unusedVariables false
set_option linter.unusedSimpArgs false
namespace Go.Proofs.Ytooogaogbffjfaa.Ext
open Go.RowKit Go.Shelf Go.Proofs.YtooogaogbffjfaaW.PrintWords Go.Proofs.YtooogaogbffjfaaW.PrintLast Go.Proofs.YtooogaogbffjfaaW.PrintMore Go.Proofs.Ytooogaogbffjfaa.PK Go.Proofs.Ytooogaogbffjfaa.Bk Go.Proofs.Ytooogaogbffjfaa.PB Go.Proofs.Ytooogaogbffjfaa.Pure
theorem bPost (acc clo : Int) (A : Option Addr) (n c : Nat) (ps : List S27) (hl : ps.length = n) (p : S27) (r : Int × List S27 × Int × Int × Int) (hr : postF acc ps clo p = r) (w : World) (hC : Kd.C k27 w A n ps) (hc : n ≤ c) (hn : n ≤ 999990) :
    Calls Try.prog 9 #[.agg #[.int .i64 acc, .slice A n c, .int .i64 clo], .agg #[.int .i64 p.f0, .int .i64 p.f1, .int .i64 p.f2, .int .i64 p.f3, .int .i64 p.f4, .int .i64 p.f5, .int .i64 p.f6]] w fun e w' => ∃ (A' : Option Addr) (c' n' : Nat), r.2.1.length = n' ∧ n' ≤ c' ∧ e = .returned (.tuple #[.agg #[.int .i64 r.1, .slice A' n' c', .int .i64 r.2.2.1], .int .i64 r.2.2.2.1, .int .i64 r.2.2.2.2]) ∧ Kd.R k27 27 w' w.heap.size (fun _ => True) (.slice A' n' c') r.2.1 ∧ Below w.heap.size w w' := by
  subst hl
  refine (book_Post.calls acc A c ps clo p.f0 p.f1 p.f2 p.f3 p.f4 p.f5 p.f6 r.1 r.2.1 r.2.2.1 r.2.2.2.1 r.2.2.2.2 w hC hc (by unfold book_Post.f; rw [if_pos (show ps.length ≤ 1000000 by omega), hr])).mono ?_
  rintro e w' ⟨v, he, hR, hb⟩
  obtain ⟨A', c', rfl⟩ := Kd.R_slice hR
  exact ⟨A', c', _, rfl, (Kd.R_reads' hR).2.1, he, hR, hb⟩
theorem bDisp (acc clo : Int) (A : Option Addr) (n c : Nat) (ps : List S27) (hl : ps.length = n) (i day amount : Int) (r : Int × List S27 × Int × Int) (hr : dispF acc ps clo i day amount = r) (w : World) (hC : Kd.C k27 w A n ps) (hc : n ≤ c) (hn : n ≤ 999990) :
    Calls Try.prog 15 #[.agg #[.int .i64 acc, .slice A n c, .int .i64 clo], .int .i64 i, .int .i64 day, .int .i64 amount] w fun e w' => ∃ (A' : Option Addr) (c' n' : Nat), r.2.1.length = n' ∧ n' ≤ c' ∧ e = .returned (.tuple #[.agg #[.int .i64 r.1, .slice A' n' c', .int .i64 r.2.2.1], .int .i64 r.2.2.2]) ∧ Kd.R k27 27 w' w.heap.size (fun _ => True) (.slice A' n' c') r.2.1 ∧ Below w.heap.size w w' := by
  subst hl
  refine (book_Dispute.calls acc A c ps clo i day amount r.1 r.2.1 r.2.2.1 r.2.2.2 w hC hc (by unfold book_Dispute.f; rw [if_pos (show ps.length ≤ 1000000 by omega), hr])).mono ?_
  rintro e w' ⟨v, he, hR, hb⟩
  obtain ⟨A', c', rfl⟩ := Kd.R_slice hR
  exact ⟨A', c', _, rfl, (Kd.R_reads' hR).2.1, he, hR, hb⟩
theorem bClose (acc clo : Int) (A : Option Addr) (n c : Nat) (ps : List S27) (hl : ps.length = n) (m : Int) (r : Int × List S27 × Int × Int) (hr : closeF acc ps clo m = r) (w : World) (hC : Kd.C k27 w A n ps) (hc : n ≤ c) (hn : n ≤ 999990) :
    Calls Try.prog 17 #[.agg #[.int .i64 acc, .slice A n c, .int .i64 clo], .int .i64 m] w fun e w' => ∃ (A' : Option Addr) (c' n' : Nat), r.2.1.length = n' ∧ n' ≤ c' ∧ e = .returned (.tuple #[.agg #[.int .i64 r.1, .slice A' n' c', .int .i64 r.2.2.1], .int .i64 r.2.2.2]) ∧ Kd.R k27 27 w' w.heap.size (fun _ => True) (.slice A' n' c') r.2.1 ∧ Below w.heap.size w w' := by
  subst hl
  refine (book_Close.calls acc A c ps clo m r.1 r.2.1 r.2.2.1 r.2.2.2 w hC hc (by unfold book_Close.f; rw [if_pos (show ps.length ≤ 1000000 by omega), hr])).mono ?_
  rintro e w' ⟨v, he, hR, hb⟩
  obtain ⟨A', c', rfl⟩ := Kd.R_slice hR
  exact ⟨A', c', _, rfl, (Kd.R_reads' hR).2.1, he, hR, hb⟩
theorem bStmt (acc clo : Int) (A : Option Addr) (n c : Nat) (ps : List S27) (hl : ps.length = n) (m : Int) (r : List Int × Int) (hr : stmtF acc ps clo m = r) (w : World) (hC : Kd.C k27 w A n ps) (hc : n ≤ c) (hn : n ≤ 999990) :
    Calls Try.prog 19 #[.agg #[.int .i64 acc, .slice A n c, .int .i64 clo], .int .i64 m] w fun e w' => ∃ (A' : Option Addr) (c' n' : Nat), r.1.length = n' ∧ n' ≤ c' ∧ e = .returned (.tuple #[.slice A' n' c', .int .i64 r.2]) ∧ Kd.R (Kd.int .i64) 3 w' w.heap.size (fun _ => True) (.slice A' n' c') r.1 ∧ Below w.heap.size w w' := by
  subst hl
  refine (book_Statement.calls acc A c ps clo m r.1 r.2 w hC hc (by unfold book_Statement.f; rw [if_pos (show ps.length ≤ 1000000 by omega), hr])).mono ?_
  rintro e w' ⟨v, he, hR, hb⟩
  obtain ⟨A', c', rfl⟩ := Kd.R_slice hR
  exact ⟨A', c', _, rfl, (Kd.R_reads' hR).2.1, he, hR, hb⟩
end Go.Proofs.Ytooogaogbffjfaa.Ext
end
section
-- Written by a program of this session out of the translation's print; not trusted: checked by the kernel.
namespace Go.Proofs.Ytooogaogbffjfaa.PB
open Go.Proofs.Ytooogaogbffjfaa.Ext
open Go.RowKit Go.Proofs.YtooogaogbffjfaaW.PrintWords Go.Proofs.YtooogaogbffjfaaW.PrintLast Go.Proofs.YtooogaogbffjfaaW.PrintMore
attribute [local go_sem] max2_int min2_int max_two min_two max_three min_three max_four min_four   -- for this text's walks alone
set_option linter.unusedVariables false
set_option linter.unusedSimpArgs false
theorem eqA27 (d : Nat) (w : World) (x0 y0 : Int) (x1 y1 : Int) (x2 y2 : Int) (x3 y3 : Int) (x4 y4 : Int) (x5 y5 : Int) (x6 y6 : Int) :
  (Op.equalIn (d + 2) 27 (.agg #[.int .i64 x0, .int .i64 x1, .int .i64 x2, .int .i64 x3, .int .i64 x4, .int .i64 x5, .int .i64 x6]) (.agg #[.int .i64 y0, .int .i64 y1, .int .i64 y2, .int .i64 y3, .int .i64 y4, .int .i64 y5, .int .i64 y6])).run Try.prog w = .ok (x0 == y0 && (x1 == y1 && (x2 == y2 && (x3 == y3 && (x4 == y4 && (x5 == y5 && (x6 == y6))))))) w := by
 refine eqA_of Try.underlying27 (by kernel_rfl) ?_
 refine eqf_cons (by rfl) (by go_simp; rfl) (by go_simp; rfl) (by go_simp) ?_
 refine eqf_cons (by rfl) (by go_simp; rfl) (by go_simp; rfl) (by go_simp) ?_
 refine eqf_cons (by rfl) (by go_simp; rfl) (by go_simp; rfl) (by go_simp) ?_
 refine eqf_cons (by rfl) (by go_simp; rfl) (by go_simp; rfl) (by go_simp) ?_
 refine eqf_cons (by rfl) (by go_simp; rfl) (by go_simp; rfl) (by go_simp) ?_
 refine eqf_cons (by rfl) (by go_simp; rfl) (by go_simp; rfl) (by go_simp) ?_
 exact eqf_last (by rfl) (by go_simp; rfl) (by go_simp; rfl) (by go_simp)
end Go.Proofs.Ytooogaogbffjfaa.PB
end
section
-- Written by a program of this session out of the translation's print; not trusted: checked by the kernel.
namespace Go.Proofs.Ytooogaogbffjfaa.PB
open Go.Proofs.Ytooogaogbffjfaa.Ext
open Go.RowKit Go.Proofs.YtooogaogbffjfaaW.PrintWords Go.Proofs.YtooogaogbffjfaaW.PrintLast Go.Proofs.YtooogaogbffjfaaW.PrintMore
attribute [local go_sem] max2_int min2_int max_two min_two max_three min_three max_four min_four   -- for this text's walks alone
set_option linter.unusedVariables false
set_option linter.unusedSimpArgs false
attribute [local go_sem high] eqA27
/-! ### aircheckref24_SamePostings: function 26 -/
def aircheckref24_SamePostings.l0 : Nat → List (S27) → List (S27) → Int → Option (Bool)
 | 0, _, _, _ => none
 | k + 1, x0, x1, x5 => if x5 < (x0.length : Int) then (if 0 ≤ x5 then (if x5 < (x1.length : Int) then (if (!(((rd_T27 x0 x5).f0) == ((rd_T27 x1 x5).f0)) || (!(((rd_T27 x0 x5).f1) == ((rd_T27 x1 x5).f1)) || (!(((rd_T27 x0 x5).f2) == ((rd_T27 x1 x5).f2)) || (!(((rd_T27 x0 x5).f3) == ((rd_T27 x1 x5).f3)) || (!(((rd_T27 x0 x5).f4) == ((rd_T27 x1 x5).f4)) || (!(((rd_T27 x0 x5).f5) == ((rd_T27 x1 x5).f5)) || (!(((rd_T27 x0 x5).f6) == ((rd_T27 x1 x5).f6))))))))) = true then (some false) else (aircheckref24_SamePostings.l0 k x0 x1 (wrap64 (x5 + 1)))) else (none)) else (none)) else (some true)
def aircheckref24_SamePostings.f (k : Nat) (l0 : List (S27)) (l1 : List (S27)) : Option (Bool) := if (l0.length : Int) = (l1.length : Int) then (aircheckref24_SamePostings.l0 k l0 l1 0) else (some false)
set_option maxHeartbeats 8000000 in
set_option maxRecDepth 100000 in
theorem aircheckref24_SamePostings.calls (k : Nat) (A0 : Option Addr) (c0 : Nat) (l0 : List (S27)) (A1 : Option Addr) (c1 : Nat) (l1 : List (S27)) (r : Bool) (w : World) (hr0 : Kd.C k27 w A0 l0.length l0) (hc0 : l0.length ≤ c0) (hr1 : Kd.C k27 w A1 l1.length l1) (hc1 : l1.length ≤ c1) (h : aircheckref24_SamePostings.f k l0 l1 = some r) :
  Calls Try.prog 26 #[.slice A0 l0.length c0, .slice A1 l1.length c1] w fun e w' => e = .returned (.bool r) ∧ Drawn0 w w' := by
 have hu27 := Try.underlying27
 have HR0 := Aside0.mk hr0
 have HC0 := Aside0.mk hc0
 clear hr0 hc0
 have HR1 := Aside0.mk hr1
 have HC1 := Aside0.mk hc1
 clear hr1 hc1
 have H : (if (l0.length : Int) = (l1.length : Int) then (aircheckref24_SamePostings.l0 k l0 l1 0) else (some false)) = some r := h
 clear h
 by_cases c3 : (l0.length : Int) = (l1.length : Int)
 ·rw [if_pos c3] at H
  have c3b0 : ((l0.length : Int) == (l1.length : Int)) = true := beq_iff_eq.mpr c3
  have c3b1 : ((l0.length : Int) != (l1.length : Int)) = false := bne_eq_false_iff_eq.mpr c3
  have c3b2 : (l0.length == l1.length) = true := by first | simpa using c3 | (simp at c3 ⊢; omega)
  clear c3
  have H' := Aside0.mk H
  clear H
  go_enter Try.func26, Try.ntmps26
  go_wp2
  repeat (go_quiet (fail); try go_wp2)
  go_loopg [5] k (fun kq v5 w' => ∃ (x5_1 : Int), v5 = .int .i64 x5_1 ∧ Aside0 (aircheckref24_SamePostings.l0 kq l0 l1 x5_1 = some r) ∧ Aside0 (kq ≤ k) ∧ Drawn0 w w')
  case atStart => exact ⟨(0), (by first | rfl | (simp; done) | (simp [*]; done)), H', ⟨Nat.le_refl _⟩, by repeat (first | exact Drawn0.refl _ | apply Drawn0.step)⟩
  case round =>
   clear H'
   try clear c1
   try clear c2
   try clear p2
   try clear c3
   try clear c3b0
   try clear c3b1
   try clear c3b2
   obtain ⟨x5_1, rfl, HA, HK1, ⟨m1, rfl⟩⟩ := hrel
   cases gk with
   | zero => exact absurd HA.out (by simp [aircheckref24_SamePostings.l0])
   | succ k1 =>
    have H := HA.out
    clear HA
    simp only [aircheckref24_SamePostings.l0] at H
    by_cases c4 : x5_1 < (l0.length : Int)
    ·rw [if_pos c4] at H
     have c4b0 : decide (x5_1 < (l0.length : Int)) = true := decide_eq_true c4
     clear c4
     by_cases c5 : 0 ≤ x5_1
     ·rw [if_pos c5] at H
      have c5b0 : decide (0 ≤ x5_1) = true := decide_eq_true c5
      clear c5
      by_cases c6 : x5_1 < (l1.length : Int)
      ·rw [if_pos c6] at H
       have c6b0 : decide (x5_1 < (l1.length : Int)) = true := decide_eq_true c6
       clear c6
       by_cases c7 : (!(((rd_T27 l0 x5_1).f0) == ((rd_T27 l1 x5_1).f0)) || (!(((rd_T27 l0 x5_1).f1) == ((rd_T27 l1 x5_1).f1)) || (!(((rd_T27 l0 x5_1).f2) == ((rd_T27 l1 x5_1).f2)) || (!(((rd_T27 l0 x5_1).f3) == ((rd_T27 l1 x5_1).f3)) || (!(((rd_T27 l0 x5_1).f4) == ((rd_T27 l1 x5_1).f4)) || (!(((rd_T27 l0 x5_1).f5) == ((rd_T27 l1 x5_1).f5)) || (!(((rd_T27 l0 x5_1).f6) == ((rd_T27 l1 x5_1).f6))))))))) = true
       ·rw [if_pos c7] at H
        have c7b0 : (!(((rd_T27 l0 x5_1).f0) == ((rd_T27 l1 x5_1).f0)) || (!(((rd_T27 l0 x5_1).f1) == ((rd_T27 l1 x5_1).f1)) || (!(((rd_T27 l0 x5_1).f2) == ((rd_T27 l1 x5_1).f2)) || (!(((rd_T27 l0 x5_1).f3) == ((rd_T27 l1 x5_1).f3)) || (!(((rd_T27 l0 x5_1).f4) == ((rd_T27 l1 x5_1).f4)) || (!(((rd_T27 l0 x5_1).f5) == ((rd_T27 l1 x5_1).f5)) || (!(((rd_T27 l0 x5_1).f6) == ((rd_T27 l1 x5_1).f6))))))))) = true := c7
        clear c7
        obtain rfl := Option.some.inj H
        have p296 : 0 ≤ (x5_1 : Int) := of_decide_eq_true (by first | (with_reducible assumption) | assumption)
        have q296 : x5_1 < (l0.length : Int) := of_decide_eq_true (by first | (with_reducible assumption) | assumption)
        obtain ⟨ad296, e296, hx296_0, hx296_1, hx296_2, hx296_3, hx296_4, hx296_5, hx296_6⟩ := at_T27 HR0.out x5_1 p296 q296
        cases e296
        replace p296 := eq_true p296
        replace q296 := eq_true q296
        have p297 : 0 ≤ (x5_1 : Int) := of_decide_eq_true (by first | (with_reducible assumption) | assumption)
        have q297 : x5_1 < (l1.length : Int) := of_decide_eq_true (by first | (with_reducible assumption) | assumption)
        obtain ⟨ad297, e297, hx297_0, hx297_1, hx297_2, hx297_3, hx297_4, hx297_5, hx297_6⟩ := at_T27 HR1.out x5_1 p297 q297
        cases e297
        replace p297 := eq_true p297
        replace q297 := eq_true q297
        go_wp2
        repeat (go_quiet (fail); try go_wp2)
        go_ret
        exact ⟨by first | rfl | (simp; done) | (simp [*]; done), by repeat (first | exact Drawn0.refl _ | apply Drawn0.step)⟩
       ·rw [if_neg c7] at H
        have c7b0 : (!(((rd_T27 l0 x5_1).f0) == ((rd_T27 l1 x5_1).f0)) || (!(((rd_T27 l0 x5_1).f1) == ((rd_T27 l1 x5_1).f1)) || (!(((rd_T27 l0 x5_1).f2) == ((rd_T27 l1 x5_1).f2)) || (!(((rd_T27 l0 x5_1).f3) == ((rd_T27 l1 x5_1).f3)) || (!(((rd_T27 l0 x5_1).f4) == ((rd_T27 l1 x5_1).f4)) || (!(((rd_T27 l0 x5_1).f5) == ((rd_T27 l1 x5_1).f5)) || (!(((rd_T27 l0 x5_1).f6) == ((rd_T27 l1 x5_1).f6))))))))) = false := by simpa using c7
        clear c7
        have H' := Aside0.mk H
        clear H
        have p296 : 0 ≤ (x5_1 : Int) := of_decide_eq_true (by first | (with_reducible assumption) | assumption)
        have q296 : x5_1 < (l0.length : Int) := of_decide_eq_true (by first | (with_reducible assumption) | assumption)
        obtain ⟨ad296, e296, hx296_0, hx296_1, hx296_2, hx296_3, hx296_4, hx296_5, hx296_6⟩ := at_T27 HR0.out x5_1 p296 q296
        cases e296
        replace p296 := eq_true p296
        replace q296 := eq_true q296
        have p297 : 0 ≤ (x5_1 : Int) := of_decide_eq_true (by first | (with_reducible assumption) | assumption)
        have q297 : x5_1 < (l1.length : Int) := of_decide_eq_true (by first | (with_reducible assumption) | assumption)
        obtain ⟨ad297, e297, hx297_0, hx297_1, hx297_2, hx297_3, hx297_4, hx297_5, hx297_6⟩ := at_T27 HR1.out x5_1 p297 q297
        cases e297
        replace p297 := eq_true p297
        replace q297 := eq_true q297
        go_wp2
        repeat (go_quiet (fail); try go_wp2)
        go_roundg k1
        case measure => have := HK1.out; omega
        case rel => exact ⟨(wrap64 (x5_1 + 1)), (by first | rfl | (simp; done) | (simp [*]; done)), H', ⟨by have := HK1.out; omega⟩, by repeat (first | exact Drawn0.refl _ | apply Drawn0.step)⟩
      ·rw [if_neg c6] at H
       exact absurd H (by simp)
     ·rw [if_neg c5] at H
      exact absurd H (by simp)
    ·rw [if_neg c4] at H
     have c4b0 : decide (x5_1 < (l0.length : Int)) = false := decide_eq_false c4
     clear c4
     obtain rfl := Option.some.inj H
     go_wp2
     repeat (go_quiet (fail); try go_wp2)
     go_ret
     exact ⟨by first | rfl | (simp; done) | (simp [*]; done), by repeat (first | exact Drawn0.refl _ | apply Drawn0.step)⟩
 ·rw [if_neg c3] at H
  have c3b0 : ((l0.length : Int) == (l1.length : Int)) = false := beq_eq_false_iff_ne.mpr c3
  have c3b1 : ((l0.length : Int) != (l1.length : Int)) = true := bne_iff_ne.mpr c3
  have c3b2 : (l0.length == l1.length) = false := by first | simpa using c3 | (simp at c3 ⊢; omega)
  obtain rfl := Option.some.inj H
  go_enter Try.func26, Try.ntmps26
  go_wp2
  repeat (go_quiet (fail); try go_wp2)
  go_ret
  exact ⟨by first | rfl | (simp; done) | (simp [*]; done), by repeat (first | exact Drawn0.refl _ | apply Drawn0.step)⟩
end Go.Proofs.Ytooogaogbffjfaa.PB
end
