import Derived.Test.YtooogaogbffjfaaMBookMatchesReferenceae
import Derived.Lib.SmallJoins
import Derived.Test.YtooogaogbffjfaaMBookMatchesReferencebe
import Derived.Test.YtooogaogbffjfaaRows
import Derived.WalkKit
import Derived.ProofKit
import Derived.OpenShut
import Derived.ShutString
import Derived.ChangeOld
import Derived.Below
import Derived.SizedLaws
import Derived.LaidMore
import Derived.Stop.Joined
import Derived.SevenTiedAt
import Derived.SliceStrings
import Derived.Lib.LaidTab
/-
  The law's contract, its pure statement, its row and its card. Conditions: the row's own.
-/
section
/-
  Books and postings that came in, opened.
-/
namespace Go.Proofs.Ytooogaogbffjfaa.Ext
open Go.RowKit Go.Deep Go.Joins Go.Proofs.YtooogaogbffjfaaW.PrintWords
def S27.Wf (x : S27) : Prop := W64 x.f0 ∧ W64 x.f1 ∧ W64 x.f2 ∧ W64 x.f3 ∧ W64 x.f4 ∧ W64 x.f5 ∧ W64 x.f6
theorem str27 {H : Type} {enc : TypeId × Value → H} {w : World} {base : Nat} {spare : Nat → Bool} {held : Bool} {fuel : Nat} {cs : List Value} {x : DataW H × List MemPlace}
    (hl : cs.length = 7) (h : DataW.trod enc Try.prog w base spare held fuel 27 cs = some x) :
    ∃ p : S27, cs = [.int .i64 p.f0, .int .i64 p.f1, .int .i64 p.f2, .int .i64 p.f3, .int .i64 p.f4, .int .i64 p.f5, .int .i64 p.f6] ∧ p.Wf := by
  have hce : Try.prog.cellsOf 3 = 1 := by kernel_rfl
  have he : Try.prog.underlying 3 = some (.int .i64) := Try.underlying3
  obtain ⟨xs, n, rfl, _, _, hn, hel⟩ := DataW.trod_struct Try.underlying27 h
  match xs, hn, cs, hl with
  | [y0, y1, y2, y3, y4, y5, y6], _, [c0, c1, c2, c3, c4, c5, c6], _ =>
    have h0 : DataW.trod enc Try.prog w base spare held n 3 (([c0, c1, c2, c3, c4, c5, c6].drop 0).take (Try.prog.cellsOf 3)) = some y0 := hel 0 _ rfl
    have h1 : DataW.trod enc Try.prog w base spare held n 3 (([c0, c1, c2, c3, c4, c5, c6].drop 1).take (Try.prog.cellsOf 3)) = some y1 := hel 1 _ rfl
    have h2 : DataW.trod enc Try.prog w base spare held n 3 (([c0, c1, c2, c3, c4, c5, c6].drop 2).take (Try.prog.cellsOf 3)) = some y2 := hel 2 _ rfl
    have h3 : DataW.trod enc Try.prog w base spare held n 3 (([c0, c1, c2, c3, c4, c5, c6].drop 3).take (Try.prog.cellsOf 3)) = some y3 := hel 3 _ rfl
    have h4 : DataW.trod enc Try.prog w base spare held n 3 (([c0, c1, c2, c3, c4, c5, c6].drop 4).take (Try.prog.cellsOf 3)) = some y4 := hel 4 _ rfl
    have h5 : DataW.trod enc Try.prog w base spare held n 3 (([c0, c1, c2, c3, c4, c5, c6].drop 5).take (Try.prog.cellsOf 3)) = some y5 := hel 5 _ rfl
    have h6 : DataW.trod enc Try.prog w base spare held n 3 (([c0, c1, c2, c3, c4, c5, c6].drop 6).take (Try.prog.cellsOf 3)) = some y6 := hel 6 _ rfl
    rw [hce] at h0 h1 h2 h3 h4 h5 h6
    simp only [List.drop, List.take] at h0 h1 h2 h3 h4 h5 h6
    obtain ⟨a0, e0, _, w0⟩ := DataW.trod_int he h0
    obtain ⟨a1, e1, _, w1⟩ := DataW.trod_int he h1
    obtain ⟨a2, e2, _, w2⟩ := DataW.trod_int he h2
    obtain ⟨a3, e3, _, w3⟩ := DataW.trod_int he h3
    obtain ⟨a4, e4, _, w4⟩ := DataW.trod_int he h4
    obtain ⟨a5, e5, _, w5⟩ := DataW.trod_int he h5
    obtain ⟨a6, e6, _, w6⟩ := DataW.trod_int he h6
    simp at e0 e1 e2 e3 e4 e5 e6
    subst e0 e1 e2 e3 e4 e5 e6
    exact ⟨⟨a0, a1, a2, a3, a4, a5, a6⟩, rfl, w0, w1, w2, w3, w4, w5, w6⟩
theorem rows27 {H : Type} {enc : TypeId × Value → H} {w : World} {base : Nat} {spare : Nat → Bool} {held : Bool} {fuel : Nat} {A : Option Addr} {len cap : Nat} {x : DataW H × List MemPlace}
    (h : DataW.trod enc Try.prog w base spare held fuel 22 [.slice A len cap] = some x) :
    ∃ l : List S27, len = l.length ∧ Kd.C k27 w A l.length l ∧ l.length ≤ maxLen ∧ (∀ x ∈ l, x.Wf) ∧ l.length ≤ cap := by
  obtain ⟨l, h1, h2, h3, h4⟩ := open_rows (fun (a : S27) cs => k27.K w a cs ∧ a.Wf) 7 z27 Try.underlying22 (by kernel_rfl) (fun fuel cs x hl hx => by
    obtain ⟨p, rfl, w⟩ := str27 hl hx
    exact ⟨p, k27_mk _ p, w⟩) h
  obtain ⟨h5, h6⟩ := rows_all h2
  exact ⟨l, h1, h5, h3, h6, h4⟩
theorem open24 {H : Type} {enc : TypeId × Value → H} {w : World} {r : Reach} {b0 base : Nat} {spare : Nat → Bool} {held : Bool} {v : Value} {d : DataW H} {p : List MemPlace}
    (hv : Value.okWide Try.prog w r b0 24 v) (h : DataW.Trod enc Try.prog w base spare held 24 v d p) :
    ∃ (acc : Int) (A : Option Addr) (cap : Nat) (clo : Int) (l : List S27), v = .agg #[.int .i64 acc, .slice A l.length cap, .int .i64 clo] ∧ Kd.C k27 w A l.length l ∧ l.length ≤ cap := by
  obtain ⟨v0, v1, v2, y0, y1, y2, n, rfl, _, _, h0, h1, h2⟩ := open_agg3 Try.underlying24 (by kernel_rfl) (by kernel_rfl) hv h
  obtain ⟨a0, e0, _, _⟩ := DataW.trod_int Try.underlying3 h0
  obtain ⟨a2, e2, _, _⟩ := DataW.trod_int Try.underlying3 h2
  simp at e0 e2
  subst e0 e2
  have hs : ∃ A len cap, v1 = .slice A len cap := by
    rcases DataW.trod_slice Try.underlying22 h1 with ⟨h, _⟩ | ⟨a, len, cap, _, _, _, _, h, _⟩
    · simp at h; exact ⟨_, _, _, h⟩
    · simp at h; exact ⟨_, _, _, h⟩
  obtain ⟨A, len, cap, rfl⟩ := hs
  obtain ⟨l, rfl, hC, _, _, hc⟩ := rows27 h1
  exact ⟨a0, A, cap, a2, l, rfl, hC, hc⟩
theorem open27 {H : Type} {enc : TypeId × Value → H} {w : World} {r : Reach} {b0 base : Nat} {spare : Nat → Bool} {held : Bool} {v : Value} {d : DataW H} {p : List MemPlace}
    (hv : Value.okWide Try.prog w r b0 27 v) (h : DataW.Trod enc Try.prog w base spare held 27 v d p) :
    ∃ q : S27, v = .agg #[.int .i64 q.f0, .int .i64 q.f1, .int .i64 q.f2, .int .i64 q.f3, .int .i64 q.f4, .int .i64 q.f5, .int .i64 q.f6] ∧ q.Wf := by
  have hv2 := hv
  unfold Value.okWide at hv2
  rw [Try.underlying27] at hv2
  obtain ⟨cs, rfl, hsz, _⟩ := hv2
  obtain ⟨fuel, hf⟩ := h
  have hz : cs.size = 7 := hsz.trans (by kernel_rfl)
  have hf2 : DataW.trod enc Try.prog w base spare held fuel 27 cs.toList = some (d, p) := hf
  obtain ⟨q, e, hw⟩ := str27 (by simpa using hz) hf2
  refine ⟨q, ?_, hw⟩
  congr 1
  exact Array.toList_inj.1 e
end Go.Proofs.Ytooogaogbffjfaa.Ext
end
section
/-
  The law BookMatchesReference answers true: its contract in the print's form, and its pure statement.
-/
set_option linter.unusedVariables false
set_option linter.unusedSimpArgs false
namespace Go.Proofs.Ytooogaogbffjfaa.PH
open Go.RowKit Go.Proofs.YtooogaogbffjfaaW.PrintWords Go.Proofs.YtooogaogbffjfaaW.PrintLast Go.Proofs.YtooogaogbffjfaaW.PrintMore Go.Proofs.Ytooogaogbffjfaa.PK Go.Proofs.Ytooogaogbffjfaa.Ext Go.Proofs.Ytooogaogbffjfaa.Bk Go.Proofs.Ytooogaogbffjfaa.Pure
theorem made_len2 (a : Int) (l : List S48) : (madeF a l).2.1.length ≤ 48 := by
  have h := (run_ok (accM a) (accM_bound a) (l.take 24)).2.1
  rw [List.length_take] at h
  have : (madeF a l).2.1 = (runM (accM a) (l.take 24)).1 := rfl
  rw [this]
  omega
def airchecklaw24_BookMatchesReference.f (k : Nat) (acc0 : Int) (l0 : List S27) (clo0 : Int) (a1 : Int) (l2 : List S48) (p : S27) (a4 a5 a6 a7 : Int) : Option Bool := if (I64 a1 ∧ ∀ x ∈ l2, I64x x) ∧ I64 a4 ∧ I64 a7 ∧ I64 p.f5 then some true else none
theorem airchecklaw24_BookMatchesReference.calls (k : Nat) (acc0 : Int) (A0 : Option Addr) (c0 : Nat) (l0 : List S27) (clo0 : Int) (a1 : Int) (A2 : Option Addr) (c2 : Nat) (l2 : List S48) (p : S27) (a4 a5 a6 a7 : Int) (r : Bool) (w : World) (hr0 : Kd.C k27 w A0 l0.length l0) (hc0 : l0.length ≤ c0) (hr2 : Kd.C k48 w A2 l2.length l2) (hc2 : l2.length ≤ c2) (h : airchecklaw24_BookMatchesReference.f k acc0 l0 clo0 a1 l2 p a4 a5 a6 a7 = some r) :
    Calls Try.prog 3 #[.agg #[.int .i64 acc0, .slice A0 l0.length c0, .int .i64 clo0], .int .i64 a1, .slice A2 l2.length c2, .agg #[.int .i64 p.f0, .int .i64 p.f1, .int .i64 p.f2, .int .i64 p.f3, .int .i64 p.f4, .int .i64 p.f5, .int .i64 p.f6], .int .i64 a4, .int .i64 a5, .int .i64 a6, .int .i64 a7] w fun e w' => e = .returned (.bool r) ∧ Below w.heap.size w w' := by
  unfold airchecklaw24_BookMatchesReference.f at h
  split at h
  · rename_i hc
    obtain rfl := Option.some.inj h
    have hb := accM_bound a1
    refine matchLaw_walk acc0 clo0 A0 l0.length c0 l0 rfl a1 A2 l2.length c2 l2 rfl p a4 a5 a6 a7 hc.2.1 hc.2.2.1 hc.2.2.2 (accM a1).toNat (madeF a1 l2).2.1 (madeF a1 l2).2.2 ?_ (made_len2 a1 l2) w hr0 hc0 hr2 hc2
    unfold aircheckref24_Made.f
    rw [if_pos hc.1, show (((accM a1).toNat : Nat) : Int) = (madeF a1 l2).1 by show _ = accM a1; omega]
  · cases h
end Go.Proofs.Ytooogaogbffjfaa.PH
namespace Go.Proofs.Ytooogaogbffjfaa.Pure
open Go.RowKit Go.Proofs.YtooogaogbffjfaaW.PrintWords Go.Proofs.YtooogaogbffjfaaW.PrintLast Go.Proofs.YtooogaogbffjfaaW.PrintMore Go.Proofs.Ytooogaogbffjfaa.PK Go.Proofs.Ytooogaogbffjfaa.Ext Go.Proofs.Ytooogaogbffjfaa.Bk
theorem BookMatchesReference (acc0 : Int) (l0 : List S27) (clo0 a1 : Int) (l2 : List S48) (p : S27) (a4 a5 a6 a7 : Int) (w1 : (Lit.int .i64 a1).wf = true) (w2 : ∀ x ∈ l2, W64 x.f0 ∧ W64 x.f1 ∧ W64 x.f2 ∧ W64 x.f3 ∧ W64 x.f4) (w3 : p.Wf) (w4 : (Lit.int .i64 a4).wf = true) (w5 : (Lit.int .i64 a5).wf = true) (w6 : (Lit.int .i64 a6).wf = true) (w7 : (Lit.int .i64 a7).wf = true) : ∃ k, PH.airchecklaw24_BookMatchesReference.f k acc0 l0 clo0 a1 l2 p a4 a5 a6 a7 = some true :=
  ⟨0, by unfold PH.airchecklaw24_BookMatchesReference.f; rw [if_pos ⟨⟨i64_wf w1, i64x_wf w2⟩, i64_wf w4, i64_wf w7, i64_wf w3.2.2.2.2.2.1⟩]⟩
end Go.Proofs.Ytooogaogbffjfaa.Pure
end
section
/-
  The law BookMatchesReference answers true for every input: its row and its tied card. Conditions: the row's own (the listed table reads as the program's start lays it; the card ties that to the program's text).
-/
namespace Go.Proofs.Ytooogaogbffjfaa.bookMatchesReference
open Go.ChangeShapes Go.WideShapes Go.ChangeAt Go.RowKit
open Go.ChangeMaps (open_string shut_string)
set_option linter.unusedVariables false
theorem own : ownKnob Try.prog.godebug = none := by kernel_rfl
theorem laidOut : laidOutB Try.prog = true := by kernel_rfl
set_option maxRecDepth 100000 in
set_option maxHeartbeats 1000000 in
theorem lifted (os : Os) (started : os.Started) (H : Type) (enc : TypeId × Value → H) :
    ReturnsInHanded {} Try.checked os 3 .any (Rows.bookMatchesReferenceSpec.pre6 enc Try.prog Try.f3 Rows.bookMatchesReferenceRow.domain false) (Rows.bookMatchesReferenceSpec.post enc Try.prog Try.f3 false true false false) := by
  refine returnsInHanded_of_change_sized (C := Try.checked) own started (by kernel_rfl) Try.func3
    (ChangeSpec.witness6 (enc := enc) (C := Try.checked) false ⟨#[], #[.agg #[.int .i64 0, .slice none 0 0, .int .i64 0], .int .i64 0, .slice none 0 0, .agg #[.int .i64 0, .int .i64 0, .int .i64 0, .int .i64 0, .int .i64 0, .int .i64 0, .int .i64 0], .int .i64 0, .int .i64 0, .int .i64 0, .int .i64 0], []⟩ 8 (by kernel_rfl) (by kernel_rfl) (by kernel_rfl) (by kernel_rfl)) ?_
  intro W base args ds gs before hval0 hW hcnd hsz0 _
  have hsz : (DataW.weightsEach Try.prog (Try.f3.params.toList ++ Rows.bookMatchesReferenceSpec.plain.varTypes Try.prog) (ds ++ gs)).all (· ≤ reachBytes) = true := hsz0
  have hval : ∀ (j : Nat) t v, Try.f3.params[j]? = some t → args[j]? = some v → Value.okWide Try.prog W .any base t v := hval0
  have hW' := hW
  obtain ⟨p, q, hA0, hV, rfl, hfz, hnd⟩ := hW
  have hA : DataW.TrodAll enc Try.prog W 0 (fun _ => true) true Try.f3.params.toList args.toList ds p := hA0
  rw [Try.params3] at hA hval hsz
  obtain ⟨v0, vs0, d0, ds0, p0, q0, hargs, rfl, rfl, h0, r0⟩ := trodAll_cons hA
  obtain ⟨v1, vs1, d1, ds1, p1, q1, rfl, rfl, rfl, h1, r1⟩ := trodAll_cons r0
  obtain ⟨v2, vs2, d2, ds2, p2, q2, rfl, rfl, rfl, h2, r2⟩ := trodAll_cons r1
  obtain ⟨v3, vs3, d3, ds3, p3, q3, rfl, rfl, rfl, h3, r3⟩ := trodAll_cons r2
  obtain ⟨v4, vs4, d4, ds4, p4, q4, rfl, rfl, rfl, h4, r4⟩ := trodAll_cons r3
  obtain ⟨v5, vs5, d5, ds5, p5, q5, rfl, rfl, rfl, h5, r5⟩ := trodAll_cons r4
  obtain ⟨v6, vs6, d6, ds6, p6, q6, rfl, rfl, rfl, h6, r6⟩ := trodAll_cons r5
  obtain ⟨v7, vs7, d7, ds7, p7, q7, rfl, rfl, rfl, h7, r7⟩ := trodAll_cons r6
  obtain ⟨rfl, rfl, rfl⟩ := trodAll_nil r7
  obtain rfl : args = #[v0, v1, v2, v3, v4, v5, v6, v7] := by cases args; simp_all
  obtain ⟨rfl, rfl⟩ := trodVars_none hV
  have k0 := h0
  have lt0 : ∀ x ∈ p0, x.block < W.heap.size := by obtain ⟨m, hm⟩ := k0; exact DataW.trod_lt m _ _ _ hm
  obtain ⟨a0, A0, c0, b0, l0, rfl, hr0, hc0⟩ := Ext.open24 (hval 0 24 v0 rfl rfl) h0
  obtain ⟨a1, rfl, rfl, rfl, w1⟩ := open_int Try.underlying3 (hval 1 3 v1 rfl rfl) h1
  obtain ⟨a2, len2, cap2, rfl⟩ := okWide_slice Try.underlying25 (hval 2 25 v2 rfl rfl)
  have k2 := h2
  have lt2 : ∀ x ∈ p2, x.block < W.heap.size := by obtain ⟨m, hm⟩ := k2; exact DataW.trod_lt m _ _ _ hm
  obtain ⟨fuel2, hf2⟩ := h2
  obtain ⟨l2, rfl, hr2, hm2, hw2, hc2⟩ := Ext.rows48 (A := a2) (len := len2) (cap := cap2) hf2
  have k3 := h3
  have lt3 : ∀ x ∈ p3, x.block < W.heap.size := by obtain ⟨m, hm⟩ := k3; exact DataW.trod_lt m _ _ _ hm
  obtain ⟨q3_, rfl, w3⟩ := Ext.open27 (hval 3 27 v3 rfl rfl) h3
  obtain ⟨a4, rfl, rfl, rfl, w4⟩ := open_int Try.underlying3 (hval 4 3 v4 rfl rfl) h4
  obtain ⟨a5, rfl, rfl, rfl, w5⟩ := open_int Try.underlying3 (hval 5 3 v5 rfl rfl) h5
  obtain ⟨a6, rfl, rfl, rfl, w6⟩ := open_int Try.underlying3 (hval 6 3 v6 rfl rfl) h6
  obtain ⟨a7, rfl, rfl, rfl, w7⟩ := open_int Try.underlying3 (hval 7 3 v7 rfl rfl) h7
  clear hA0 hval0 hsz0 hsz
  obtain ⟨k, hk⟩ := Pure.BookMatchesReference a0 l0 b0 a1 l2 q3_ a4 a5 a6 a7  w1 hw2 w3 w4 w5 w6 w7
  refine (PH.airchecklaw24_BookMatchesReference.calls k a0 _ _ l0 b0 a1 _ _ l2 q3_ a4 a5 a6 a7 true W hr0 hc0 hr2 hc2 hk).mono fun e W' ⟨he, bel⟩ => ?_
  subst he
  exact ⟨_, rfl, _, _, _, [], _, [], hW', trodAll_mk1 (shut_bool Try.underlying4 _), (trodAll_cons_mk (Below.trod laidOut (by kernel_rfl) (of_decide_eq_true (by kernel_rfl)) k0 bel lt0) (trodAll_cons_mk (shut_int Try.underlying3 w1) (trodAll_cons_mk (Below.trod laidOut (by kernel_rfl) (of_decide_eq_true (by kernel_rfl)) k2 bel lt2) (trodAll_cons_mk (Below.trod laidOut (by kernel_rfl) (of_decide_eq_true (by kernel_rfl)) k3 bel lt3) (trodAll_cons_mk (shut_int Try.underlying3 w4) (trodAll_cons_mk (shut_int Try.underlying3 w5) (trodAll_cons_mk (shut_int Try.underlying3 w6) (trodAll_cons_mk (shut_int Try.underlying3 w7) trodAll_mk0)))))))), rfl, bel.frame _, fun h => by cases h⟩
theorem over : Rows.bookMatchesReferenceRow.holds Try.pinned (OpenSpec.ofChange Rows.bookMatchesReferenceSpec) :=
  OpenClaim.holds_of_wide 3 Try.f3 rfl rfl rfl rfl rfl rfl rfl ⟨rfl, rfl, rfl, rfl, rfl⟩ rfl rfl rfl rfl rfl (by kernel_rfl) Try.func3 (by kernel_rfl)
    (of_decide_eq_true (by kernel_rfl)) (by unfold Func.isWrapper; first | (rw [if_pos (by decide +kernel)]; kernel_rfl) | (rw [if_neg (by decide +kernel)]; exact ⟨rfl, rfl⟩))
    (fun os started H enc _ => lifted os started H enc)
end Go.Proofs.Ytooogaogbffjfaa.bookMatchesReference
namespace Go.Proofs.Ytooogaogbffjfaa
theorem bookMatchesReference_holds : Rows.BookMatchesReferenceSaid := bookMatchesReference.over
#print axioms bookMatchesReference_holds
end Go.Proofs.Ytooogaogbffjfaa
end
