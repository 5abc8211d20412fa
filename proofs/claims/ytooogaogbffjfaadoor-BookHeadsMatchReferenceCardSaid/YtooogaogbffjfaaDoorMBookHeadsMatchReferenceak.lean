import Derived.Test.YtooogaogbffjfaaDoorMBookHeadsMatchReferenceah
import Derived.Test.YtooogaogbffjfaaDoorMBookHeadsMatchReferenceaj
import Derived.Test.YtooogaogbffjfaaDoorMBookHeadsMatchReferenceae
import Derived.StillTailTactics
/-
  Texts of this claim, one behind the other: what they prove stands above each.
-/
section
set_option linter.unusedVariables false
set_option linter.unusedSimpArgs false
namespace Go.Proofs.YtooogaogbffjfaaDoor.Ext
set_option maxRecDepth 100000
open Go.RowKit Go.Proofs.YtooogaogbffjfaaDoorW.PrintWords Go.Proofs.YtooogaogbffjfaaDoorW.PrintLast Go.Proofs.YtooogaogbffjfaaDoorW.PrintMore Go.Proofs.YtooogaogbffjfaaDoor.PK Go.Proofs.YtooogaogbffjfaaDoor.Bk
attribute [local go_sem] Oper.semAt_some
set_option maxRecDepth 100000 in
set_option maxHeartbeats 2000000 in
theorem post_early (ws w : World) (B : Nat) (acc clo : Int) (ps : List S27) (p : S27) (hL : Ledger ws w B acc clo ps) (hps : ps.length ≤ 200) (hc : 0 ≤ clo ∧ clo ≤ 12) (he : ¬ 30 * clo ≤ p.f1) :
    Calls Tryd.prog 40 #[.pointer (some ⟨B, 0, none⟩), pv p] w fun e w' => e = .returned (.bool false) ∧ Ledger ws w' B acc clo ps ∧ Fram w w' B := by
  obtain ⟨m, hm⟩ : ∃ m, 30 * clo = m := ⟨_, rfl⟩
  have hw : IntKind.i64.wrap (30 * clo) = m := by rw [IntWalk.i64_in _ (by omega)]; exact hm
  have hd : decide (m ≤ p.f1) = false := decide_eq_false (by omega)
  have HLL := Lib.hid hL
  obtain ⟨_, _, v, hB, _⟩ := hL
  have c2 : w.cell? ⟨B, 2, none⟩ = some (.int .i64 clo) := hB.cell rfl
  have HPS := Lib.hid hps
  have HM := Lib.hid hm
  have e0 := box_cells w p 0 _ rfl 27
  have e1 := box_cells w p 1 _ rfl 27
  have e2 := box_cells w p 2 _ rfl 27
  have e3 := box_cells w p 3 _ rfl 27
  have e4 := box_cells w p 4 _ rfl 27
  have e5 := box_cells w p 5 _ rfl 27
  have e6 := box_cells w p 6 _ rfl 27
  have c2' := c_old (o := .cells (pcells p).toArray 27) c2
  unfold pv
  unfold pcells at c2' e0 e1 e2 e3 e4 e5 e6
  have HC1 : Hid (w.cell? ⟨B, 1, none⟩ = some v) := Lib.hid (hB.cell rfl)
  clear c2 hB hps hm
  go_enter Tryd.func40, Tryd.ntmps40
  go_wp2
  generalize hw1 : w.alloc (.cells [Value.int .i64 p.f0, .int .i64 p.f1, .int .i64 p.f2, .int .i64 p.f3, .int .i64 p.f4, .int .i64 p.f5, .int .i64 p.f6].toArray 27) = w1 at *
  have hbw : Below w.heap.size w w1.drew := below_drew1 (by rw [← hw1]; exact (Below.refl _ _).alloc (Nat.le_refl _) _)
  refine start_ (n := 15) (S := fun w' => w'.cell? ⟨B, 2, none⟩ = some (.int .i64 clo) ∧ w'.cell? ⟨w.heap.size, 0, none⟩ = some (.int .i64 p.f0) ∧ w'.cell? ⟨w.heap.size, 1, none⟩ = some (.int .i64 p.f1) ∧ w'.cell? ⟨w.heap.size, 2, none⟩ = some (.int .i64 p.f2) ∧ w'.cell? ⟨w.heap.size, 3, none⟩ = some (.int .i64 p.f3) ∧ w'.cell? ⟨w.heap.size, 4, none⟩ = some (.int .i64 p.f4) ∧ w'.cell? ⟨w.heap.size, 5, none⟩ = some (.int .i64 p.f5) ∧ w'.cell? ⟨w.heap.size, 6, none⟩ = some (.int .i64 p.f6)) (ds := []) (bb 15 0) (by kernel_rfl) rfl rfl ⟨c2', e0, e1, e2, e3, e4, e5, e6⟩ (fun hHeld => ?_)
  generalize w1.drew = wd at *
  refine pure_ (i := 0) (N := some 5) (v := ?_) (a' := ?_) (bb 15 1) rfl rfl (by kernel_rfl) (fun _ _ _ h => h) (Or.inl ⟨by rfl, ?_⟩) ?_ ?_
  rotate_left; (intro w'; go_simp; with_reducible rfl); rotate_left; (simp only [Act.put, z1, z2, z3, i64_w, i32_w]; rfl)
  refine pure_ (i := 2) (N := some 7) (v := ?_) (a' := ?_) (bb 15 5) rfl rfl (by kernel_rfl) (fun _ _ _ h => h) (Or.inl ⟨by rfl, ?_⟩) ?_ ?_
  rotate_left; (intro w'; go_simp; with_reducible rfl); rotate_left; (simp only [Act.put, z1, z2, z3, i64_w, i32_w]; rfl)
  refine pure_ (i := 3) (N := some 8) (v := ?_) (a' := ?_) (bb 15 13) rfl rfl (by kernel_rfl) (fun _ _ _ h => h) (Or.inl ⟨by rfl, ?_⟩) ?_ ?_
  rotate_left; (intro w'; go_simp; with_reducible rfl); rotate_left; (simp only [Act.put, z1, z2, z3, i64_w, i32_w]; rfl)
  refine pure_ (i := 4) (N := some 9) (v := ?_) (a' := ?_) (bb 15 29) rfl rfl (by kernel_rfl) (fun _ _ _ h => h) (Or.inl ⟨by rfl, ?_⟩) ?_ ?_
  rotate_left; (intro w'; go_simp; with_reducible rfl); rotate_left; (simp only [Act.put, z1, z2, z3, i64_w, i32_w]; rfl)
  refine pure_ (i := 5) (N := some 10) (v := ?_) (a' := ?_) (bb 15 61) rfl rfl (by kernel_rfl) (fun _ _ _ h => h) (Or.inl ⟨by rfl, ?_⟩) ?_ ?_
  rotate_left; (intro w'; go_simp; with_reducible rfl); rotate_left; (simp only [Act.put, z1, z2, z3, i64_w, i32_w]; rfl)
  refine take_ (i := 1) (N := some 6) (v := ?_) (a' := ?_) (bb 15 63) rfl rfl (by kernel_rfl) (fun _ _ _ h => h) (Or.inl ⟨by rfl, ?_⟩) hHeld ?_ ?_
  rotate_left; (rintro w' ⟨s0, s1, s2, s3, s4, s5, s6, s7⟩; go_simp; with_reducible rfl); rotate_left; (simp only [Act.put, z1, z2, z3, i64_w, i32_w]; rfl)
  refine take_ (i := 6) (N := some 11) (v := ?_) (a' := ?_) (bb 15 127) rfl rfl (by kernel_rfl) (fun _ _ _ h => h) (Or.inl ⟨by rfl, ?_⟩) hHeld ?_ ?_
  rotate_left; (rintro w' ⟨s0, s1, s2, s3, s4, s5, s6, s7⟩; go_simp; with_reducible rfl); rotate_left; (simp only [Act.put, z1, z2, z3, i64_w, i32_w]; rfl)
  refine pure_ (i := 7) (N := some 12) (v := ?_) (a' := ?_) (bb 15 255) rfl rfl (by kernel_rfl) (fun _ _ _ h => h) (Or.inl ⟨by rfl, ?_⟩) ?_ ?_
  rotate_left; (intro w'; go_simp; with_reducible rfl); rotate_left; (simp only [Act.put, z1, z2, z3, i64_w, i32_w]; rfl)
  refine pure_ (i := 8) (N := some 13) (v := ?_) (a' := ?_) (bb 15 511) rfl rfl (by kernel_rfl) (fun _ _ _ h => h) (Or.inl ⟨by rfl, ?_⟩) ?_ ?_
  rotate_left; (intro w'; go_simp; with_reducible rfl); rotate_left; (simp only [Act.put, z1, z2, z3, i64_w, i32_w]; rfl)
  refine pure_ (i := 9) (N := some 14) (v := ?_) (a' := ?_) (bb 15 1023) rfl rfl (by kernel_rfl) (fun _ _ _ h => h) (Or.inl ⟨by rfl, ?_⟩) ?_ ?_
  rotate_left; (intro w'; go_simp; with_reducible rfl); rotate_left; (simp only [Act.put, z1, z2, z3, i64_w, i32_w]; rfl)
  refine pure_ (i := 10) (N := some 15) (v := undef) (a' := ?_) (bb 15 2047) rfl rfl (by kernel_rfl) (fun _ _ _ h => h) (Or.inr ⟨by rfl, rfl⟩) ?_ ?_
  rotate_left; (simp only [Act.put, z1, z2, z3, i64_w, i32_w]; rfl)
  refine pure_ (i := 11) (N := some 16) (v := undef) (a' := ?_) (bb 15 4095) rfl rfl (by kernel_rfl) (fun _ _ _ h => h) (Or.inr ⟨by rfl, rfl⟩) ?_ ?_
  rotate_left; (simp only [Act.put, z1, z2, z3, i64_w, i32_w]; rfl)
  refine pure_ (i := 12) (N := some 17) (v := undef) (a' := ?_) (bb 15 8191) rfl rfl (by kernel_rfl) (fun _ _ _ h => h) (Or.inr ⟨by rfl, rfl⟩) ?_ ?_
  rotate_left; (simp only [Act.put, z1, z2, z3, i64_w, i32_w]; rfl)
  refine pure_ (i := 13) (N := some 18) (v := ?_) (a' := ?_) (bb 15 16383) rfl rfl (by kernel_rfl) (fun _ _ _ h => h) (Or.inl ⟨by rfl, ?_⟩) ?_ ?_
  rotate_left; (intro w'; go_simp; with_reducible rfl); rotate_left; (simp only [Act.put, z1, z2, z3, i64_w, i32_w]; rfl)
  refine pure_ (i := 14) (N := some 4) (v := ?_) (a' := ?_) (bb 15 32767) rfl rfl (by kernel_rfl) (fun _ _ _ h => h) (Or.inl ⟨by rfl, ?_⟩) ?_ ?_
  rotate_left; (intro w'; go_simp; with_reducible rfl); rotate_left; (simp only [Act.put, z1, z2, z3, i64_w, i32_w]; rfl)
  refine done_ (by kernel_rfl) ?_
  go_wp2
  go_ret
  exact ⟨rfl, HLL.out.below hbw, Fram.stay hbw⟩
set_option maxRecDepth 100000 in
set_option maxHeartbeats 2000000 in
theorem post_late (ws w : World) (B : Nat) (acc clo : Int) (ps : List S27) (p : S27) (hL : Ledger ws w B acc clo ps) (hps : ps.length ≤ 200) (hc : 0 ≤ clo ∧ clo ≤ 12) (he : 30 * clo ≤ p.f1) (r : Bool) (hr : nextB acc ps p = r) (qs : List S27) (hqs : (if r then ps ++ [p] else ps) = qs) :
    Calls Tryd.prog 40 #[.pointer (some ⟨B, 0, none⟩), pv p] w fun e w' => e = .returned (.bool r) ∧ Ledger ws w' B acc clo qs ∧ Fram w w' B := by
  obtain ⟨m, hm⟩ : ∃ m, 30 * clo = m := ⟨_, rfl⟩
  have hw : IntKind.i64.wrap (30 * clo) = m := by rw [IntWalk.i64_in _ (by omega)]; exact hm
  have hd : decide (m ≤ p.f1) = true := decide_eq_true (by omega)
  have HR := Lib.hid hr
  have HQS := Lib.hid hqs
  clear hr hqs
  have HLL := Lib.hid hL
  obtain ⟨_, _, v, hB, _⟩ := hL
  have c2 : w.cell? ⟨B, 2, none⟩ = some (.int .i64 clo) := hB.cell rfl
  have HPS := Lib.hid hps
  have HM := Lib.hid hm
  have e0 := box_cells w p 0 _ rfl 27
  have e1 := box_cells w p 1 _ rfl 27
  have e2 := box_cells w p 2 _ rfl 27
  have e3 := box_cells w p 3 _ rfl 27
  have e4 := box_cells w p 4 _ rfl 27
  have e5 := box_cells w p 5 _ rfl 27
  have e6 := box_cells w p 6 _ rfl 27
  have c2' := c_old (o := .cells (pcells p).toArray 27) c2
  unfold pv
  unfold pcells at c2' e0 e1 e2 e3 e4 e5 e6
  have HC1 : Hid (w.cell? ⟨B, 1, none⟩ = some v) := Lib.hid (hB.cell rfl)
  clear c2 hB hps hm
  go_enter Tryd.func40, Tryd.ntmps40
  go_wp2
  generalize hw1 : w.alloc (.cells [Value.int .i64 p.f0, .int .i64 p.f1, .int .i64 p.f2, .int .i64 p.f3, .int .i64 p.f4, .int .i64 p.f5, .int .i64 p.f6].toArray 27) = w1 at *
  have hbw : Below w.heap.size w w1.drew := below_drew1 (by rw [← hw1]; exact (Below.refl _ _).alloc (Nat.le_refl _) _)
  refine start_ (n := 15) (S := fun w' => w'.cell? ⟨B, 2, none⟩ = some (.int .i64 clo) ∧ w'.cell? ⟨w.heap.size, 0, none⟩ = some (.int .i64 p.f0) ∧ w'.cell? ⟨w.heap.size, 1, none⟩ = some (.int .i64 p.f1) ∧ w'.cell? ⟨w.heap.size, 2, none⟩ = some (.int .i64 p.f2) ∧ w'.cell? ⟨w.heap.size, 3, none⟩ = some (.int .i64 p.f3) ∧ w'.cell? ⟨w.heap.size, 4, none⟩ = some (.int .i64 p.f4) ∧ w'.cell? ⟨w.heap.size, 5, none⟩ = some (.int .i64 p.f5) ∧ w'.cell? ⟨w.heap.size, 6, none⟩ = some (.int .i64 p.f6)) (ds := [12]) (bb 15 0) (by kernel_rfl) rfl rfl ⟨c2', e0, e1, e2, e3, e4, e5, e6⟩ (fun hHeld => ?_)
  generalize w1.drew = wd at *
  refine pure_ (i := 0) (N := some 5) (v := ?_) (a' := ?_) (bb 15 1) rfl rfl (by kernel_rfl) (fun _ _ _ h => h) (Or.inl ⟨by rfl, ?_⟩) ?_ ?_
  rotate_left; (intro w'; go_simp; with_reducible rfl); rotate_left; (simp only [Act.put, z1, z2, z3, i64_w, i32_w]; rfl)
  refine pure_ (i := 2) (N := some 7) (v := ?_) (a' := ?_) (bb 15 5) rfl rfl (by kernel_rfl) (fun _ _ _ h => h) (Or.inl ⟨by rfl, ?_⟩) ?_ ?_
  rotate_left; (intro w'; go_simp; with_reducible rfl); rotate_left; (simp only [Act.put, z1, z2, z3, i64_w, i32_w]; rfl)
  refine pure_ (i := 3) (N := some 8) (v := ?_) (a' := ?_) (bb 15 13) rfl rfl (by kernel_rfl) (fun _ _ _ h => h) (Or.inl ⟨by rfl, ?_⟩) ?_ ?_
  rotate_left; (intro w'; go_simp; with_reducible rfl); rotate_left; (simp only [Act.put, z1, z2, z3, i64_w, i32_w]; rfl)
  refine pure_ (i := 4) (N := some 9) (v := ?_) (a' := ?_) (bb 15 29) rfl rfl (by kernel_rfl) (fun _ _ _ h => h) (Or.inl ⟨by rfl, ?_⟩) ?_ ?_
  rotate_left; (intro w'; go_simp; with_reducible rfl); rotate_left; (simp only [Act.put, z1, z2, z3, i64_w, i32_w]; rfl)
  refine pure_ (i := 5) (N := some 10) (v := ?_) (a' := ?_) (bb 15 61) rfl rfl (by kernel_rfl) (fun _ _ _ h => h) (Or.inl ⟨by rfl, ?_⟩) ?_ ?_
  rotate_left; (intro w'; go_simp; with_reducible rfl); rotate_left; (simp only [Act.put, z1, z2, z3, i64_w, i32_w]; rfl)
  refine take_ (i := 1) (N := some 6) (v := ?_) (a' := ?_) (bb 15 63) rfl rfl (by kernel_rfl) (fun _ _ _ h => h) (Or.inl ⟨by rfl, ?_⟩) hHeld ?_ ?_
  rotate_left; (rintro w' ⟨s0, s1, s2, s3, s4, s5, s6, s7⟩; go_simp; with_reducible rfl); rotate_left; (simp only [Act.put, z1, z2, z3, i64_w, i32_w]; rfl)
  refine take_ (i := 6) (N := some 11) (v := ?_) (a' := ?_) (bb 15 127) rfl rfl (by kernel_rfl) (fun _ _ _ h => h) (Or.inl ⟨by rfl, ?_⟩) hHeld ?_ ?_
  rotate_left; (rintro w' ⟨s0, s1, s2, s3, s4, s5, s6, s7⟩; go_simp; with_reducible rfl); rotate_left; (simp only [Act.put, z1, z2, z3, i64_w, i32_w]; rfl)
  refine pure_ (i := 7) (N := some 12) (v := ?_) (a' := ?_) (bb 15 255) rfl rfl (by kernel_rfl) (fun _ _ _ h => h) (Or.inl ⟨by rfl, ?_⟩) ?_ ?_
  rotate_left; (intro w'; go_simp; with_reducible rfl); rotate_left; (simp only [Act.put, z1, z2, z3, i64_w, i32_w]; rfl)
  refine pure_ (i := 8) (N := some 13) (v := ?_) (a' := ?_) (bb 15 511) rfl rfl (by kernel_rfl) (fun _ _ _ h => h) (Or.inl ⟨by rfl, ?_⟩) ?_ ?_
  rotate_left; (intro w'; go_simp; with_reducible rfl); rotate_left; (simp only [Act.put, z1, z2, z3, i64_w, i32_w]; rfl)
  refine pure_ (i := 9) (N := some 14) (v := ?_) (a' := ?_) (bb 15 1023) rfl rfl (by kernel_rfl) (fun _ _ _ h => h) (Or.inl ⟨by rfl, ?_⟩) ?_ ?_
  rotate_left; (intro w'; go_simp; with_reducible rfl); rotate_left; (simp only [Act.put, z1, z2, z3, i64_w, i32_w]; rfl)
  refine pure_ (i := 10) (N := some 15) (v := ?_) (a' := ?_) (bb 15 2047) rfl rfl (by kernel_rfl) (fun _ _ _ h => h) (Or.inl ⟨by rfl, ?_⟩) ?_ ?_
  rotate_left; (intro w'; go_simp; with_reducible rfl); rotate_left; (simp only [Act.put, z1, z2, z3, i64_w, i32_w]; rfl)
  refine take_ (i := 11) (N := some 16) (v := ?_) (a' := ?_) (bb 15 4095) rfl rfl (by kernel_rfl) (fun _ _ _ h => h) (Or.inl ⟨by rfl, ?_⟩) hHeld ?_ ?_
  rotate_left; (rintro w' ⟨s0, s1, s2, s3, s4, s5, s6, s7⟩; go_simp; with_reducible rfl); rotate_left; (simp only [Act.put, z1, z2, z3, i64_w, i32_w]; rfl)
  refine last_ (i := 12) (N := some 17) (bb 15 8191) rfl rfl (by kernel_rfl) (by decide) (fun K hK => ?_)
  refine goes_ Tryd.func51 (by kernel_rfl) rfl #[.pointer (some ⟨B, 0, none⟩), .agg #[.int .i64 p.f0, .int .i64 p.f1, .int .i64 p.f2, .int .i64 p.f3, .int .i64 p.f4, .int .i64 p.f5, .int .i64 p.f6]] (by rfl) rfl rfl (by simp only [List.map_toArray, List.map_cons, List.map_nil]; rfl) ?_
  with_reducible refine (takes_frame' ws _ B acc clo ps p r HR.out (HLL.out.below hbw) HPS.out).mono ?_
  rintro e w2 ⟨rfl, hL2, hFr2⟩
  refine ⟨_, rfl, ?_⟩
  rw [HQS.out] at hL2
  refine hK.out _ _ ?_
  clear hK K
  refine norm_ (a' := ?_) ?_ ?_
  rotate_left
  · show Act.put _ (some 17) _ = _
    simp only [Act.put, z1, z2, z3, i64_w, i32_w]
    rfl
  refine pure_ (i := 13) (N := some 18) (v := ?_) (a' := ?_) (bb 15 16383) rfl rfl (by kernel_rfl) (fun _ _ _ h => h) (Or.inl ⟨by rfl, ?_⟩) ?_ ?_
  rotate_left; (intro w'; go_simp; with_reducible rfl); rotate_left; (simp only [Act.put, z1, z2, z3, i64_w, i32_w]; rfl)
  refine pure_ (i := 14) (N := some 4) (v := ?_) (a' := ?_) (bb 15 32767) rfl rfl (by kernel_rfl) (fun _ _ _ h => h) (Or.inl ⟨by rfl, ?_⟩) ?_ ?_
  rotate_left; (intro w'; go_simp; with_reducible rfl); rotate_left; (simp only [Act.put, z1, z2, z3, i64_w, i32_w]; rfl)
  refine done_ (by kernel_rfl) ?_
  go_wp2
  go_ret
  exact ⟨rfl, hL2, hFr2.lift hbw HC1.out⟩
def postB (acc clo : Int) (ps : List S27) (p : S27) : Bool := decide (30 * clo ≤ p.f1) && nextB acc ps p
theorem post_frame (ws w : World) (B : Nat) (acc clo : Int) (ps : List S27) (p : S27) (hL : Ledger ws w B acc clo ps) (hps : ps.length ≤ 200) (hc : 0 ≤ clo ∧ clo ≤ 12) (r : Bool) (hr : postB acc clo ps p = r) :
    Calls Tryd.prog 40 #[.pointer (some ⟨B, 0, none⟩), .agg #[.int .i64 p.f0, .int .i64 p.f1, .int .i64 p.f2, .int .i64 p.f3, .int .i64 p.f4, .int .i64 p.f5, .int .i64 p.f6]] w fun e w' => e = .returned (.bool r) ∧ Ledger ws w' B acc clo (if r then ps ++ [p] else ps) ∧ Fram w w' B := by
  by_cases h : 30 * clo ≤ p.f1
  · exact post_late ws w B acc clo ps p hL hps hc h r (by rw [← hr]; unfold postB; rw [decide_eq_true h, Bool.true_and]) _ rfl
  · have : r = false := by rw [← hr]; unfold postB; rw [decide_eq_false h, Bool.false_and]
    subst this
    exact (post_early ws w B acc clo ps p hL hps hc h).mono fun e w' h => h
theorem post_walk (ws w : World) (B : Nat) (acc clo : Int) (ps : List S27) (p : S27) (hL : Ledger ws w B acc clo ps) (hps : ps.length ≤ 200) (hc : 0 ≤ clo ∧ clo ≤ 12) (r : Bool) (hr : postB acc clo ps p = r) :
    Calls Tryd.prog 40 #[.pointer (some ⟨B, 0, none⟩), .agg #[.int .i64 p.f0, .int .i64 p.f1, .int .i64 p.f2, .int .i64 p.f3, .int .i64 p.f4, .int .i64 p.f5, .int .i64 p.f6]] w fun e w' => e = .returned (.bool r) ∧ Ledger ws w' B acc clo (if r then ps ++ [p] else ps) :=
  (post_frame ws w B acc clo ps p hL hps hc r hr).mono fun e w' h => ⟨h.1, h.2.1⟩
end Go.Proofs.YtooogaogbffjfaaDoor.Ext
end
section
set_option linter.unusedVariables false
set_option linter.unusedSimpArgs false
namespace Go.Proofs.YtooogaogbffjfaaDoor.Ext
set_option maxRecDepth 100000
open Go.RowKit Go.Proofs.YtooogaogbffjfaaDoorW.PrintWords Go.Proofs.YtooogaogbffjfaaDoorW.PrintLast Go.Proofs.YtooogaogbffjfaaDoorW.PrintMore Go.Proofs.YtooogaogbffjfaaDoor.PK Go.Proofs.YtooogaogbffjfaaDoor.Bk
attribute [local go_sem] Oper.semAt_some
def validB (acc : Int) (ps : List S27) (clo : Int) : Bool := okAll acc [] ps && inB acc clo
theorem okAll_len (n : Int) (ps : List S27) : ∀ pre : List S27, okAll n pre ps = true → ps = [] ∨ pre.length + ps.length ≤ 200 := by
  induction ps with
  | nil => intro pre h; exact .inl rfl
  | cons p r ih =>
    intro pre h
    rw [okAll, Bool.and_eq_true] at h
    have h1 := next_len h.1
    rcases ih _ h.2 with rfl | h2
    · right; simp; omega
    · right; simp at h2 ⊢; omega
theorem okAll_200 {n : Int} {ps : List S27} (h : okAll n [] ps = true) : ps.length ≤ 200 := by
  rcases okAll_len n ps [] h with rfl | h2
  · simp
  · simpa using h2
theorem open_yes (acc clo : Int) (A : Option Addr) (c : Nat) (ps : List S27) (w : World) (hr : Kd.C k27 w A ps.length ps) (hn : ps.length ≤ 1000000) (h : okAll acc [] ps = true) (b : Bool) (hb : inB acc clo = b) :
    Calls Tryd.prog 33 #[.agg #[.int .i64 acc, .slice A ps.length c, .int .i64 clo]] w fun e w' => ∃ B, e = .returned (.tuple #[.pointer (some ⟨B, 0, none⟩), .bool b]) ∧ Ledger w w' B acc clo ps := by
  subst hb
  exact (open_walk acc clo A c ps w hr hn).mono fun e w' h2 => by unfold OpenPost at h2; rw [if_pos h] at h2; exact h2
theorem open_no (acc clo : Int) (A : Option Addr) (c : Nat) (ps : List S27) (w : World) (hr : Kd.C k27 w A ps.length ps) (hn : ps.length ≤ 1000000) (h : okAll acc [] ps = false) :
    Calls Tryd.prog 33 #[.agg #[.int .i64 acc, .slice A ps.length c, .int .i64 clo]] w fun e w' => e = .returned (.tuple #[.pointer none, .bool false]) ∧ Below w.heap.size w w' :=
  (open_walk acc clo A c ps w hr hn).mono fun e w' h2 => by unfold OpenPost at h2; rw [if_neg (by rw [h]; decide)] at h2; exact h2
set_option maxHeartbeats 1000000 in
theorem Valid_walk (acc clo : Int) (A : Option Addr) (c : Nat) (ps : List S27) (w : World) (hr : Kd.C k27 w A ps.length ps) (hn : ps.length ≤ 1000000) :
    Calls Tryd.prog 24 #[.agg #[.int .i64 acc, .slice A ps.length c, .int .i64 clo]] w fun e w' => e = .returned (.bool (validB acc ps clo)) ∧ Below w.heap.size w w' := by
  have HR := Lib.hid hr
  clear hr
  cases ho : okAll acc [] ps with
  | false =>
    have HO := Lib.hid ho
    have hv : validB acc ps clo = false := by unfold validB; rw [ho, Bool.false_and]
    rw [hv]
    clear ho hv
    go_enter Tryd.func24, Tryd.ntmps24
    go_wp2_with (first | (go_at_call 33; refine (open_no acc clo A c ps _ (Kd.C_alloc HR.out _) hn HO.out).mono ?_; rintro e w2 ⟨rfl, hb2⟩) | fail)
    go_ret
    exact ⟨rfl, Below.trans ((Below.refl _ _).alloc (Nat.le_refl _) _) (hb2.mono (by simp))⟩
  | true =>
    have HO := Lib.hid ho
    obtain ⟨b, hb⟩ : ∃ b, inB acc clo = b := ⟨_, rfl⟩
    have hv : validB acc ps clo = b := by unfold validB; rw [ho, hb, Bool.true_and]
    rw [hv]
    have HB := Lib.hid hb
    clear ho hv hb
    go_enter Tryd.func24, Tryd.ntmps24
    go_wp2_with (first | (go_at_call 33; refine (open_yes acc clo A c ps _ (Kd.C_alloc HR.out _) hn HO.out b HB.out).mono ?_; rintro e w2 ⟨B, rfl, hL2⟩) | fail)
    go_ret
    exact ⟨rfl, Below.trans ((Below.refl _ _).alloc (Nat.le_refl _) _) (hL2.1.mono (by simp))⟩
theorem res_facts {w : World} {R : Nat} {t : TypeId} {a0 a1 a2 : Value} (h : Blk w R t [a0, a1, a2]) (v0 v1 v2 : Value) :
    w.cell? ⟨R, 0, none⟩ = some a0 ∧ w.frozen? ⟨R, 0, none⟩ = false ∧ (w.setCell ⟨R, 0, none⟩ v0).cell? ⟨R, 1, none⟩ = some a1 ∧ (w.setCell ⟨R, 0, none⟩ v0).frozen? ⟨R, 1, none⟩ = false ∧
    ((w.setCell ⟨R, 0, none⟩ v0).setCell ⟨R, 1, none⟩ v1).cell? ⟨R, 2, none⟩ = some a2 ∧ ((w.setCell ⟨R, 0, none⟩ v0).setCell ⟨R, 1, none⟩ v1).frozen? ⟨R, 2, none⟩ = false ∧
    (((w.setCell ⟨R, 0, none⟩ v0).setCell ⟨R, 1, none⟩ v1).setCell ⟨R, 2, none⟩ v2).cell? ⟨R, 0, none⟩ = some v0 ∧ (((w.setCell ⟨R, 0, none⟩ v0).setCell ⟨R, 1, none⟩ v1).setCell ⟨R, 2, none⟩ v2).cell? ⟨R, 1, none⟩ = some v1 ∧ (((w.setCell ⟨R, 0, none⟩ v0).setCell ⟨R, 1, none⟩ v1).setCell ⟨R, 2, none⟩ v2).cell? ⟨R, 2, none⟩ = some v2 ∧ Blk (((w.setCell ⟨R, 0, none⟩ v0).setCell ⟨R, 1, none⟩ v1).setCell ⟨R, 2, none⟩ v2) R t [v0, v1, v2] := by
  have h1 := h.set 0 v0
  have h2 := h1.set 1 v1
  have h3 := h2.set 2 v2
  exact ⟨h.cell rfl, h.free 0, h1.cell rfl, h1.free 1, h2.cell rfl, h2.free 2, h3.cell rfl, h3.cell rfl, h3.cell rfl, h3⟩
theorem res_blk (w : World) (a b : Obj) : Blk (((w.alloc a).alloc b).alloc (.cells #[.int .i64 0, .slice none 0 0, .int .i64 0] 24)) (w.heap.size + 1 + 1) 24 [.int .i64 0, .slice none 0 0, .int .i64 0] := by
  have := Blk.new ((w.alloc a).alloc b) 24 [.int .i64 0, .slice none 0 0, .int .i64 0]
  simpa using this
theorem res_below {w w2 : World} {R : Nat} (h : Below w.heap.size w w2) (hR : w.heap.size ≤ R) (v0 v1 v2 : Value) : Below w.heap.size w (((w2.setCell ⟨R, 0, none⟩ v0).setCell ⟨R, 1, none⟩ v1).setCell ⟨R, 2, none⟩ v2) :=
  ((h.setCell (p := ⟨R, 0, none⟩) hR v0).setCell (p := ⟨R, 1, none⟩) hR v1).setCell (p := ⟨R, 2, none⟩) hR v2
theorem below3 (w : World) (a b c : Obj) : Below w.heap.size w (((w.alloc a).alloc b).alloc c) := (((Below.refl _ _).alloc (Nat.le_refl _) _).alloc (by simp) _).alloc (by simp; omega) _
theorem keep3 {w : World} {R : Nat} {a : Addr} {x : Value} (h : a.block ≠ R) (hc : w.cell? a = some x) (v0 v1 v2 : Value) : (((w.setCell ⟨R, 0, none⟩ v0).setCell ⟨R, 1, none⟩ v1).setCell ⟨R, 2, none⟩ v2).cell? a = some x :=
  far_set (b := ⟨R, 2, none⟩) h (far_set (b := ⟨R, 1, none⟩) h (far_set (b := ⟨R, 0, none⟩) h hc))
theorem res_keep {w : World} {R base : Nat} {v : Value} {ps : List S27} {a0 a1 a2 : Value} (h : Kd.R k27 27 w base (fun _ => True) v ps) (hb : Blk w R 24 [a0, a1, a2]) (v0 v1 v2 : Value) : Kd.R k27 27 (((w.setCell ⟨R, 0, none⟩ v0).setCell ⟨R, 1, none⟩ v1).setCell ⟨R, 2, none⟩ v2) base (fun _ => True) v ps := by
  have h1 := hb.set 0 v0
  have h2 := h1.set 1 v1
  exact Kd.R_set (Kd.R_set (Kd.R_set h hb.heap (by decide) 0 v0) h1.heap (by decide) 1 v1) h2.heap (by decide) 2 v2
theorem post_box (w : World) (a c : Obj) (p : S27) {w2 : World} (hb : Below (((w.alloc a).alloc (.cells #[.int .i64 p.f0, .int .i64 p.f1, .int .i64 p.f2, .int .i64 p.f3, .int .i64 p.f4, .int .i64 p.f5, .int .i64 p.f6] 27)).alloc c).heap.size (((w.alloc a).alloc (.cells #[.int .i64 p.f0, .int .i64 p.f1, .int .i64 p.f2, .int .i64 p.f3, .int .i64 p.f4, .int .i64 p.f5, .int .i64 p.f6] 27)).alloc c) w2) :
    w2.cell? ⟨w.heap.size + 1, 0, none⟩ = some (.int .i64 p.f0) ∧ w2.cell? ⟨w.heap.size + 1, 1, none⟩ = some (.int .i64 p.f1) ∧ w2.cell? ⟨w.heap.size + 1, 2, none⟩ = some (.int .i64 p.f2) ∧ w2.cell? ⟨w.heap.size + 1, 3, none⟩ = some (.int .i64 p.f3) ∧ w2.cell? ⟨w.heap.size + 1, 4, none⟩ = some (.int .i64 p.f4) ∧ w2.cell? ⟨w.heap.size + 1, 5, none⟩ = some (.int .i64 p.f5) ∧ w2.cell? ⟨w.heap.size + 1, 6, none⟩ = some (.int .i64 p.f6) := by
  have key (j : Nat) (v : Value) (h : (#[Value.int .i64 p.f0, .int .i64 p.f1, .int .i64 p.f2, .int .i64 p.f3, .int .i64 p.f4, .int .i64 p.f5, .int .i64 p.f6])[j]? = some v) : w2.cell? ⟨w.heap.size + 1, j, none⟩ = some v :=
    keepB hb (c_old (c_new _ _ _ _ _ _ h (by simp)))
  exact ⟨key 0 _ rfl, key 1 _ rfl, key 2 _ rfl, key 3 _ rfl, key 4 _ rfl, key 5 _ rfl, key 6 _ rfl⟩
theorem post_arg (w : World) (b c : Obj) {w2 : World} {acc clo : Int} {A : Option Addr} {n k : Nat} (hb : Below (((w.alloc (.cells #[.int .i64 acc, .slice A n k, .int .i64 clo] 24)).alloc b).alloc c).heap.size (((w.alloc (.cells #[.int .i64 acc, .slice A n k, .int .i64 clo] 24)).alloc b).alloc c) w2) :
    w2.drew.cell? ⟨w.heap.size, 1, none⟩ = some (.slice A n k) := keepB (w2 := w2.drew) (below_drew1 hb) (c_old (c_old (c_new _ _ _ _ _ _ rfl rfl)))
set_option maxRecDepth 100000 in
set_option maxHeartbeats 2000000 in
theorem Post_no1 (acc clo : Int) (A : Option Addr) (c : Nat) (ps : List S27) (p : S27) (w : World) (hr : Kd.C k27 w A ps.length ps) (hn : ps.length ≤ 1000000) (ho : okAll acc [] ps = false) :
    Calls Tryd.prog 17 #[.agg #[.int .i64 acc, .slice A ps.length c, .int .i64 clo], pv p] w fun e w' => e = .returned (.tuple #[.agg #[.int .i64 0, .slice none 0 0, .int .i64 0], .int .i64 0, .int .i64 240]) ∧ Below w.heap.size w w' := by
  have HR := Lib.hid hr
  have HO := Lib.hid ho
  clear hr ho
  unfold pv
  go_enter Tryd.func17, Tryd.ntmps17
  go_wp2_with (first | (go_at_call 33; refine (open_no acc clo A c ps _ (Kd.C_alloc (Kd.C_alloc (Kd.C_alloc HR.out _) _) _) hn HO.out).mono ?_; rintro e w2 ⟨rfl, hb2⟩; have hR := (res_blk w _ _).belowS hb2; obtain ⟨r1, r2, r3, r4, r5, r6, r7, r8, r9, r10⟩ := res_facts hR (.int .i64 0) (.slice none 0 0) (.int .i64 0)) | fail)
  refine bodyPost_ret (results_list (rs := [.cell 4 24, .tmp 5, .tmp 6]) rfl (by simp) (.cell _ _ _ (0, 0) _ rfl r10 Tryd.underlying24 rfl (by kernel_rfl) (.tmp (.tmp .nil)))) rfl ?_
  exact ⟨rfl, res_below (Below.trans (below3 w _ _ _) (hb2.mono (below3 w _ _ _).size)) (by omega) _ _ _⟩
end Go.Proofs.YtooogaogbffjfaaDoor.Ext
end
section
set_option linter.unusedVariables false
set_option linter.unusedSimpArgs false
namespace Go.Proofs.YtooogaogbffjfaaDoor.Ext
set_option maxRecDepth 100000
open Go.RowKit Go.Proofs.YtooogaogbffjfaaDoorW.PrintWords Go.Proofs.YtooogaogbffjfaaDoorW.PrintLast Go.Proofs.YtooogaogbffjfaaDoorW.PrintMore Go.Proofs.YtooogaogbffjfaaDoor.PK Go.Proofs.YtooogaogbffjfaaDoor.Bk
attribute [local go_sem] Oper.semAt_some
set_option maxRecDepth 100000 in
set_option maxHeartbeats 4000000 in
theorem Post_no2 (acc clo : Int) (A : Option Addr) (c : Nat) (ps : List S27) (p : S27) (w : World) (hr : Kd.C k27 w A ps.length ps) (hn : ps.length ≤ 1000000) (ho : okAll acc [] ps = true) (hi : inB acc clo = false) :
    Calls Tryd.prog 17 #[.agg #[.int .i64 acc, .slice A ps.length c, .int .i64 clo], pv p] w fun e w' => e = .returned (.tuple #[.agg #[.int .i64 0, .slice none 0 0, .int .i64 0], .int .i64 0, .int .i64 240]) ∧ Below w.heap.size w w' := by
  have HPS := Lib.hid (okAll_200 ho)
  have HR := Lib.hid hr
  have HO := Lib.hid ho
  have HI := Lib.hid hi
  clear hr ho hi
  unfold pv
  go_enter Tryd.func17, Tryd.ntmps17
  go_wp2_with (first | (go_at_call 33; refine (open_yes acc clo A c ps _ (Kd.C_alloc (Kd.C_alloc (Kd.C_alloc HR.out _) _) _) hn HO.out false HI.out).mono ?_; rintro e w2 ⟨B, rfl, hL2⟩; have hR := (res_blk w _ _).belowS hL2.1; obtain ⟨r1, r2, r3, r4, r5, r6, r7, r8, r9, r10⟩ := res_facts hR (.int .i64 0) (.slice none 0 0) (.int .i64 0)) | fail)
  refine bodyPost_ret (results_list (rs := [.cell 4 24, .tmp 5, .tmp 6]) rfl (by simp) (.cell _ _ _ (0, 0) _ rfl r10 Tryd.underlying24 rfl (by kernel_rfl) (.tmp (.tmp .nil)))) rfl ?_
  exact ⟨rfl, res_below (Below.trans (below3 w _ _ _) (hL2.1.mono (below3 w _ _ _).size)) (by omega) _ _ _⟩
theorem clo_of {acc clo : Int} (h : inB acc clo = true) : 0 ≤ clo ∧ clo ≤ 12 := by
  unfold inB at h
  exact (of_decide_eq_true h).2
set_option maxRecDepth 100000 in
set_option maxHeartbeats 4000000 in
theorem Post_no3 (acc clo : Int) (A : Option Addr) (c : Nat) (ps : List S27) (p : S27) (w : World) (hr : Kd.C k27 w A ps.length ps) (hn : ps.length ≤ 1000000) (ho : okAll acc [] ps = true) (hi : inB acc clo = true) (hp : postB acc clo ps p = false) :
    Calls Tryd.prog 17 #[.agg #[.int .i64 acc, .slice A ps.length c, .int .i64 clo], pv p] w fun e w' => e = .returned (.tuple #[.agg #[.int .i64 0, .slice none 0 0, .int .i64 0], .int .i64 0, .int .i64 240]) ∧ Below w.heap.size w w' := by
  have HPS := Lib.hid (okAll_200 ho)
  have HR := Lib.hid hr
  have HO := Lib.hid ho
  have HI := Lib.hid hi
  have HP := Lib.hid hp
  clear hr ho hi hp
  unfold pv
  go_enter Tryd.func17, Tryd.ntmps17
  go_wp2_with (first | (go_at_call 33; refine (open_yes acc clo A c ps _ (Kd.C_alloc (Kd.C_alloc (Kd.C_alloc HR.out _) _) _) hn HO.out true HI.out).mono ?_; rintro e w2 ⟨B, rfl, hL2⟩; have e0 := hL2.1.block (w.heap.size + 1); have HLL := Lib.hid hL2; have HE := Lib.hid (post_box w _ _ p hL2.1); obtain ⟨x0, x1, x2, x3, x4, x5, x6⟩ := HE.out; clear e0 hL2) | (go_at_call 40; refine (post_walk _ _ B acc clo ps p HLL.out HPS.out (clo_of HI.out) false HP.out).mono ?_; rintro e w3 ⟨rfl, hL3⟩; have hR := (res_blk w _ _).belowS hL3.1; obtain ⟨r1, r2, r3, r4, r5, r6, r7, r8, r9, r10⟩ := res_facts hR (.int .i64 0) (.slice none 0 0) (.int .i64 0)) | fail)
  refine bodyPost_ret (results_list (rs := [.cell 4 24, .tmp 5, .tmp 6]) rfl (by simp) (.cell _ _ _ (0, 0) _ rfl r10 Tryd.underlying24 rfl (by kernel_rfl) (.tmp (.tmp .nil)))) rfl ?_
  exact ⟨rfl, res_below (Below.trans (below3 w _ _ _) (hL3.1.mono (below3 w _ _ _).size)) (by omega) _ _ _⟩
end Go.Proofs.YtooogaogbffjfaaDoor.Ext
end
section
set_option linter.unusedVariables false
set_option linter.unusedSimpArgs false
namespace Go.Proofs.YtooogaogbffjfaaDoor.Ext
set_option maxRecDepth 100000
open Go.RowKit Go.Proofs.YtooogaogbffjfaaDoorW.PrintWords Go.Proofs.YtooogaogbffjfaaDoorW.PrintLast Go.Proofs.YtooogaogbffjfaaDoorW.PrintMore Go.Proofs.YtooogaogbffjfaaDoor.PK Go.Proofs.YtooogaogbffjfaaDoor.Bk
attribute [local go_sem] Oper.semAt_some
set_option maxRecDepth 100000 in
set_option maxHeartbeats 4000000 in
theorem Post_yes (acc clo : Int) (A : Option Addr) (c : Nat) (ps : List S27) (p : S27) (w : World) (hr : Kd.C k27 w A ps.length ps) (hn : ps.length ≤ 1000000) (ho : okAll acc [] ps = true) (hi : inB acc clo = true) (hp : postB acc clo ps p = true) :
    Calls Tryd.prog 17 #[.agg #[.int .i64 acc, .slice A ps.length c, .int .i64 clo], pv p] w fun e w' => ∃ v1 : Value, e = .returned (.tuple #[.agg #[.int .i64 acc, v1, .int .i64 clo], .int .i64 (ps.length : Int), .int .i64 0]) ∧ Kd.R k27 27 w' w.heap.size (fun _ => True) v1 (ps ++ [p]) ∧ Below w.heap.size w w' := by
  have HPS := Lib.hid (okAll_200 ho)
  have HR := Lib.hid hr
  have HO := Lib.hid ho
  have HI := Lib.hid hi
  have HP := Lib.hid hp
  clear hr ho hi hp
  unfold pv
  go_enter Tryd.func17, Tryd.ntmps17
  go_upto_region 4 with (first | (go_at_call 33; refine (open_yes acc clo A c ps _ (Kd.C_alloc (Kd.C_alloc (Kd.C_alloc HR.out _) _) _) hn HO.out true HI.out).mono ?_; rintro e w2 ⟨B, rfl, hL2⟩; have HLL := Lib.hid hL2; have HE := Lib.hid (post_box w _ _ p hL2.1); obtain ⟨x0, x1, x2, x3, x4, x5, x6⟩ := HE.out; clear hL2) | (go_at_call 40; refine (post_walk _ _ B acc clo ps p HLL.out HPS.out (clo_of HI.out) true HP.out).mono ?_; rintro e w3 ⟨rfl, hL3⟩) | fail)
  replace hL3 : Ledger _ w3 B acc clo (ps ++ [p]) := hL3
  obtain ⟨hb3, hB3, v', hLed, hR', hne, _⟩ := hL3
  have hRb : Blk w3.drew (w.heap.size + 1 + 1) 24 [.int .i64 0, .slice none 0 0, .int .i64 0] := by
    have h := (res_blk w _ _).belowS hb3
    exact h
  have y3 := post_arg w _ _ hb3
  have y0 : w3.drew.cell? ⟨B, 0, none⟩ = some (.int .i64 acc) := hLed.cell rfl
  have y1 : w3.drew.cell? ⟨B, 1, none⟩ = some v' := hLed.cell rfl
  have y2 : w3.drew.cell? ⟨B, 2, none⟩ = some (.int .i64 clo) := hLed.cell rfl
  obtain ⟨a', k', rfl⟩ := Kd.R_slice hR'
  obtain ⟨nn, hnn⟩ : ∃ nn, (ps ++ [p]).length = nn := ⟨_, rfl⟩
  rw [hnn] at y1 hR' hLed
  have HNN := Lib.hid hnn
  clear hnn
  have HBR := Lib.hid (show B ≠ w.heap.size + 1 + 1 from fun e => by simp at hB3; omega)
  have HXR := Lib.hid (show w.heap.size ≠ w.heap.size + 1 + 1 from by omega)
  have hbd := below_drew1 hb3
  have hRd := Kd.R_drew hR'
  have HRR := Lib.hid <| res_facts (w := w3.drew) hRb (.int .i64 acc) (.slice a' nn k') (.int .i64 clo)
  refine start_ (n := 10) (S := fun w' => w'.cell? ⟨B, 0, none⟩ = some (.int .i64 acc) ∧ w'.cell? ⟨B, 1, none⟩ = some (.slice a' nn k') ∧ w'.cell? ⟨B, 2, none⟩ = some (.int .i64 clo) ∧ w'.cell? ⟨w.heap.size, 1, none⟩ = some (.slice A ps.length c)) (ds := []) (bb 10 0) (by kernel_rfl) rfl rfl ⟨y0, y1, y2, y3⟩ (fun hHeld => ?_)
  generalize w3.drew = wd at *
  refine pure_ (i := 0) (N := some 23) (v := ?_) (a' := ?_) (bb 10 1) rfl rfl (by kernel_rfl) (fun _ _ _ h => h) (Or.inl ⟨by rfl, ?_⟩) ?_ ?_
  rotate_left; (intro w'; go_simp; with_reducible rfl); rotate_left; (simp only [Act.put, z1, z2, z3, i64_w, i32_w]; rfl)
  refine pure_ (i := 1) (N := some 24) (v := ?_) (a' := ?_) (bb 10 3) rfl rfl (by kernel_rfl) (fun _ _ _ h => h) (Or.inl ⟨by rfl, ?_⟩) ?_ ?_
  rotate_left; (intro w'; go_simp; with_reducible rfl); rotate_left; (simp only [Act.put, z1, z2, z3, i64_w, i32_w]; rfl)
  refine pure_ (i := 2) (N := some 25) (v := ?_) (a' := ?_) (bb 10 7) rfl rfl (by kernel_rfl) (fun _ _ _ h => h) (Or.inl ⟨by rfl, ?_⟩) ?_ ?_
  rotate_left; (intro w'; go_simp; with_reducible rfl); rotate_left; (simp only [Act.put, z1, z2, z3, i64_w, i32_w]; rfl)
  refine pure_ (i := 4) (N := some 27) (v := ?_) (a' := ?_) (bb 10 23) rfl rfl (by kernel_rfl) (fun _ _ _ h => h) (Or.inl ⟨by rfl, ?_⟩) ?_ ?_
  rotate_left; (intro w'; go_simp; with_reducible rfl); rotate_left; (simp only [Act.put, z1, z2, z3, i64_w, i32_w]; rfl)
  refine take_ (i := 3) (N := some 26) (v := ?_) (a' := ?_) (bb 10 31) rfl rfl (by kernel_rfl) (fun _ _ _ h => h) (Or.inl ⟨by rfl, ?_⟩) hHeld ?_ ?_
  rotate_left; (rintro w' ⟨s0, s1, s2, s3⟩; go_simp; with_reducible rfl); rotate_left; (simp only [Act.put, z1, z2, z3, i64_w, i32_w]; rfl)
  refine take_ (i := 5) (N := some 28) (v := ?_) (a' := ?_) (bb 10 63) rfl rfl (by kernel_rfl) (fun _ _ _ h => h) (Or.inl ⟨by rfl, ?_⟩) hHeld ?_ ?_
  rotate_left; (rintro w' ⟨s0, s1, s2, s3⟩; go_simp; with_reducible rfl); rotate_left; (simp only [Act.put, z1, z2, z3, i64_w, i32_w]; rfl)
  refine pure_ (i := 6) (N := some 29) (v := ?_) (a' := ?_) (bb 10 127) rfl rfl (by kernel_rfl) (fun _ _ _ h => h) (Or.inl ⟨by rfl, ?_⟩) ?_ ?_
  rotate_left; (intro w'; go_simp; with_reducible rfl); rotate_left; (simp only [Act.put, z1, z2, z3, i64_w, i32_w]; rfl)
  refine one_ (i := 7) (N := none) (bb 10 255) rfl rfl (by kernel_rfl) (by decide) (fun K hK => ?_)
  obtain ⟨r1, r2, r3, r4, r5, r6, _, _, _, _⟩ := HRR.out
  refine skip_ (w1 := ?_) (by rfl) rfl ?_ ?_
  rotate_left
  · go_simp
    rfl
  refine hK.out _ _ ⟨keep3 HBR.out (hHeld.1) _ _ _, keep3 HBR.out (hHeld.2.1) _ _ _, keep3 HBR.out (hHeld.2.2.1) _ _ _, keep3 HXR.out (hHeld.2.2.2) _ _ _⟩ (fun hHeld => ?_)
  clear hK K r1 r2 r3 r4 r5 r6
  refine pure_ (i := 8) (N := some 5) (v := ?_) (a' := ?_) (bb 10 511) rfl rfl (by kernel_rfl) (fun _ _ _ h => h) (Or.inl ⟨by rfl, ?_⟩) ?_ ?_
  rotate_left; (intro w'; go_simp; with_reducible rfl); rotate_left; (simp only [Act.put, z1, z2, z3, i64_w, i32_w]; rfl)
  refine pure_ (i := 9) (N := some 6) (v := ?_) (a' := ?_) (bb 10 1023) rfl rfl (by kernel_rfl) (fun _ _ _ h => h) (Or.inl ⟨by rfl, ?_⟩) ?_ ?_
  rotate_left; (intro w'; go_simp; with_reducible rfl); rotate_left; (simp only [Act.put, z1, z2, z3, i64_w, i32_w]; rfl)
  refine done_ (by kernel_rfl) ?_
  go_wp2
  obtain ⟨_, _, _, _, _, _, _, _, _, r10⟩ := HRR.out
  refine bodyPost_ret (results_list (rs := [.cell 4 24, .tmp 5, .tmp 6]) rfl (by simp) (.cell _ _ _ (0, 0) _ rfl r10 Tryd.underlying24 rfl (by kernel_rfl) (.tmp (.tmp .nil)))) rfl ?_
  refine ⟨_, rfl, ?_, res_below (Below.trans (below3 w _ _ _) (hbd.mono (below3 w _ _ _).size)) (by omega) _ _ _⟩
  exact Kd.R_lower (res_keep hRd hRb _ _ _) (below3 w _ _ _).size
end Go.Proofs.YtooogaogbffjfaaDoor.Ext
end
section
set_option linter.unusedVariables false
set_option linter.unusedSimpArgs false
namespace Go.Proofs.YtooogaogbffjfaaDoor.Ext
set_option maxRecDepth 100000
open Go.RowKit Go.Proofs.YtooogaogbffjfaaDoorW.PrintWords Go.Proofs.YtooogaogbffjfaaDoorW.PrintLast Go.Proofs.YtooogaogbffjfaaDoorW.PrintMore Go.Proofs.YtooogaogbffjfaaDoor.PK Go.Proofs.YtooogaogbffjfaaDoor.Bk
attribute [local go_sem] Oper.semAt_some
theorem res_blk1 (w : World) (a : Obj) : Blk ((w.alloc a).alloc (.cells #[.int .i64 0, .slice none 0 0, .int .i64 0] 24)) (w.heap.size + 1) 24 [.int .i64 0, .slice none 0 0, .int .i64 0] := by
  have := Blk.new (w.alloc a) 24 [.int .i64 0, .slice none 0 0, .int .i64 0]
  simpa using this
theorem below2 (w : World) (a b : Obj) : Below w.heap.size w ((w.alloc a).alloc b) := ((Below.refl _ _).alloc (Nat.le_refl _) _).alloc (by simp) _
theorem arg_clo (w : World) (b : Obj) {w2 : World} {acc clo : Int} {A : Option Addr} {n k : Nat} (hb : Below ((w.alloc (.cells #[.int .i64 acc, .slice A n k, .int .i64 clo] 24)).alloc b).heap.size ((w.alloc (.cells #[.int .i64 acc, .slice A n k, .int .i64 clo] 24)).alloc b) w2) :
    w2.cell? ⟨w.heap.size, 2, none⟩ = some (.int .i64 clo) := keepB hb (c_old (c_new _ _ _ _ _ _ rfl rfl))
set_option maxRecDepth 100000 in
set_option maxHeartbeats 4000000 in
theorem Close_no1 (acc clo : Int) (A : Option Addr) (c : Nat) (ps : List S27) (month : Int) (w : World) (hr : Kd.C k27 w A ps.length ps) (hn : ps.length ≤ 1000000) (ho : okAll acc [] ps = false) :
    Calls Tryd.prog 21 #[.agg #[.int .i64 acc, .slice A ps.length c, .int .i64 clo], .int .i64 month] w fun e w' => e = .returned (.tuple #[.agg #[.int .i64 0, .slice none 0 0, .int .i64 0], .int .i64 240]) ∧ Below w.heap.size w w' := by
  have HR := Lib.hid hr
  have HO := Lib.hid ho
  clear hr ho
  go_enter Tryd.func21, Tryd.ntmps21
  go_wp2_with (first | (go_at_call 33; refine (open_no acc clo A c ps _ (Kd.C_alloc (Kd.C_alloc HR.out _) _) hn HO.out).mono ?_; rintro e w2 ⟨rfl, hb2⟩; have hR := (res_blk1 w _).belowS hb2; obtain ⟨r1, r2, r3, r4, r5, r6, r7, r8, r9, r10⟩ := res_facts hR (.int .i64 0) (.slice none 0 0) (.int .i64 0)) | fail)
  refine bodyPost_ret (results_list (rs := [.cell 4 24, .tmp 5]) rfl (by simp) (.cell _ _ _ (0, 0) _ rfl r10 Tryd.underlying24 rfl (by kernel_rfl) (.tmp .nil))) rfl ?_
  exact ⟨rfl, res_below (Below.trans (below2 w _ _) (hb2.mono (below2 w _ _).size)) (by omega) _ _ _⟩
set_option maxRecDepth 100000 in
set_option maxHeartbeats 4000000 in
theorem Close_no2 (acc clo : Int) (A : Option Addr) (c : Nat) (ps : List S27) (month : Int) (w : World) (hr : Kd.C k27 w A ps.length ps) (hn : ps.length ≤ 1000000) (ho : okAll acc [] ps = true) (hi : inB acc clo = false) :
    Calls Tryd.prog 21 #[.agg #[.int .i64 acc, .slice A ps.length c, .int .i64 clo], .int .i64 month] w fun e w' => e = .returned (.tuple #[.agg #[.int .i64 0, .slice none 0 0, .int .i64 0], .int .i64 240]) ∧ Below w.heap.size w w' := by
  have HR := Lib.hid hr
  have HO := Lib.hid ho
  have HI := Lib.hid hi
  clear hr ho hi
  go_enter Tryd.func21, Tryd.ntmps21
  go_wp2_with (first | (go_at_call 33; refine (open_yes acc clo A c ps _ (Kd.C_alloc (Kd.C_alloc HR.out _) _) hn HO.out false HI.out).mono ?_; rintro e w2 ⟨B, rfl, hL2⟩; have hR := (res_blk1 w _).belowS hL2.1; obtain ⟨r1, r2, r3, r4, r5, r6, r7, r8, r9, r10⟩ := res_facts hR (.int .i64 0) (.slice none 0 0) (.int .i64 0)) | fail)
  refine bodyPost_ret (results_list (rs := [.cell 4 24, .tmp 5]) rfl (by simp) (.cell _ _ _ (0, 0) _ rfl r10 Tryd.underlying24 rfl (by kernel_rfl) (.tmp .nil))) rfl ?_
  exact ⟨rfl, res_below (Below.trans (below2 w _ _) (hL2.1.mono (below2 w _ _).size)) (by omega) _ _ _⟩
set_option maxRecDepth 100000 in
set_option maxHeartbeats 4000000 in
theorem Close_no3 (acc clo : Int) (A : Option Addr) (c : Nat) (ps : List S27) (month : Int) (w : World) (hr : Kd.C k27 w A ps.length ps) (hn : ps.length ≤ 1000000) (ho : okAll acc [] ps = true) (hi : inB acc clo = true) (hm : month ≠ clo) :
    Calls Tryd.prog 21 #[.agg #[.int .i64 acc, .slice A ps.length c, .int .i64 clo], .int .i64 month] w fun e w' => e = .returned (.tuple #[.agg #[.int .i64 0, .slice none 0 0, .int .i64 0], .int .i64 240]) ∧ Below w.heap.size w w' := by
  have HR := Lib.hid hr
  have HO := Lib.hid ho
  have HI := Lib.hid hi
  clear hr ho hi
  go_enter Tryd.func21, Tryd.ntmps21
  go_wp2_with (first | (go_at_call 33; refine (open_yes acc clo A c ps _ (Kd.C_alloc (Kd.C_alloc HR.out _) _) hn HO.out true HI.out).mono ?_; rintro e w2 ⟨B, rfl, hL2⟩; have hac := arg_clo w _ hL2.1; have hR := (res_blk1 w _).belowS hL2.1; obtain ⟨r1, r2, r3, r4, r5, r6, r7, r8, r9, r10⟩ := res_facts hR (.int .i64 0) (.slice none 0 0) (.int .i64 0)) | fail)
  refine bodyPost_ret (results_list (rs := [.cell 4 24, .tmp 5]) rfl (by simp) (.cell _ _ _ (0, 0) _ rfl r10 Tryd.underlying24 rfl (by kernel_rfl) (.tmp .nil))) rfl ?_
  exact ⟨rfl, res_below (Below.trans (below2 w _ _) (hL2.1.mono (below2 w _ _).size)) (by omega) _ _ _⟩
set_option maxRecDepth 100000 in
set_option maxHeartbeats 4000000 in
theorem Close_no4 (acc clo : Int) (A : Option Addr) (c : Nat) (ps : List S27) (month : Int) (w : World) (hr : Kd.C k27 w A ps.length ps) (hn : ps.length ≤ 1000000) (ho : okAll acc [] ps = true) (hi : inB acc clo = true) (hm : clo = month) (hc : decide (0 ≤ clo ∧ clo ≤ 11) = false) :
    Calls Tryd.prog 21 #[.agg #[.int .i64 acc, .slice A ps.length c, .int .i64 clo], .int .i64 month] w fun e w' => e = .returned (.tuple #[.agg #[.int .i64 0, .slice none 0 0, .int .i64 0], .int .i64 240]) ∧ Below w.heap.size w w' := by
  have HR := Lib.hid hr
  have HO := Lib.hid ho
  obtain rfl := hm
  have HI := Lib.hid hi
  have HC := Lib.hid hc
  clear hr ho hi hc
  go_enter Tryd.func21, Tryd.ntmps21
  go_wp2_with (first | (go_at_call 33; refine (open_yes acc clo A c ps _ (Kd.C_alloc (Kd.C_alloc HR.out _) _) hn HO.out true HI.out).mono ?_; rintro e w2 ⟨B, rfl, hL2⟩; have hac := arg_clo w _ hL2.1) | (go_at_call 41; (with_reducible refine (isIn_walk' clo 0 11 false HC.out _).mono ?_); rintro e w4 ⟨rfl, hd4⟩; have hb4 := Below.trans hL2.1 (hd4.below.mono hL2.1.size); have hR := (res_blk1 w _).belowS hb4; obtain ⟨r1, r2, r3, r4, r5, r6, r7, r8, r9, r10⟩ := res_facts hR (.int .i64 0) (.slice none 0 0) (.int .i64 0)) | fail)
  refine bodyPost_ret (results_list (rs := [.cell 4 24, .tmp 5]) rfl (by simp) (.cell _ _ _ (0, 0) _ rfl r10 Tryd.underlying24 rfl (by kernel_rfl) (.tmp .nil))) rfl ?_
  exact ⟨rfl, res_below (Below.trans (below2 w _ _) (hb4.mono (below2 w _ _).size)) (by omega) _ _ _⟩
theorem led_own {ws w : World} {B : Nat} {acc clo : Int} {ps : List S27} (h : Ledger ws w B acc clo ps) : ∃ (a' : Option Addr) (k' nn : Nat), ps.length = nn ∧ Led w B acc (.slice a' nn k') clo (backs ps) ∧ Kd.R k27 27 w ws.heap.size (fun _ => True) (.slice a' nn k') ps ∧ some B ≠ (Value.slice a' nn k').ownBlock := by
  obtain ⟨_, _, v, h1, h2, h3, _⟩ := h
  obtain ⟨a', k', rfl⟩ := Kd.R_slice h2
  exact ⟨a', k', _, rfl, h1, h2, h3⟩
set_option maxRecDepth 100000 in
set_option maxHeartbeats 4000000 in
theorem Close_yes (acc clo : Int) (A : Option Addr) (c : Nat) (ps : List S27) (w : World) (hr : Kd.C k27 w A ps.length ps) (hn : ps.length ≤ 1000000) (ho : okAll acc [] ps = true) (hi : inB acc clo = true) (hc : decide (0 ≤ clo ∧ clo ≤ 11) = true) :
    Calls Tryd.prog 21 #[.agg #[.int .i64 acc, .slice A ps.length c, .int .i64 clo], .int .i64 clo] w fun e w' => ∃ v1 : Value, e = .returned (.tuple #[.agg #[.int .i64 acc, v1, .int .i64 (clo + 1)], .int .i64 0]) ∧ Kd.R k27 27 w' w.heap.size (fun _ => True) v1 ps ∧ Below w.heap.size w w' := by
  obtain ⟨d, hd⟩ : ∃ d, clo + 1 = d := ⟨_, rfl⟩
  have hw : IntKind.i64.wrap (clo + 1) = d := by have := of_decide_eq_true hc; rw [IntWalk.i64_in _ (by omega)]; exact hd
  rw [hd]
  have HR := Lib.hid hr
  have HO := Lib.hid ho
  have HI := Lib.hid hi
  have HC := Lib.hid hc
  clear hr ho hi hc hd
  go_enter Tryd.func21, Tryd.ntmps21
  go_upto_region 4 with (first | (go_at_call 33; refine (open_yes acc clo A c ps _ (Kd.C_alloc (Kd.C_alloc HR.out _) _) hn HO.out true HI.out).mono ?_; rintro e w2 ⟨B, rfl, hL2⟩; have hac := arg_clo w _ hL2.1) | (go_at_call 41; (with_reducible refine (isIn_walk' clo 0 11 true HC.out _).mono ?_); rintro e w4 ⟨rfl, hd4⟩; have hac4 := keepB hd4.below hac; have HL4 := Lib.hid (hL2.below hd4.below)) | fail)
  clear hL2 hac hac4
  have HB := Lib.hid HL4.out.2.1
  have HW := Lib.hid HL4.out.1
  obtain ⟨a', k', nn, hnn, hLed, hR', hne⟩ := led_own HL4.out
  have HNN := Lib.hid hnn
  have HRR := Lib.hid hR'
  have HNE := Lib.hid hne
  have hB2 : w4.cell? ⟨B, 2, none⟩ = some (.int .i64 clo) := hLed.cell rfl
  have hF2 : w4.frozen? ⟨B, 2, none⟩ = false := hLed.free 2
  have hS := hLed.set 2 (.int .i64 d)
  have y0 : (w4.setCell ⟨B, 2, none⟩ (.int .i64 d)).cell? ⟨B, 0, none⟩ = some (.int .i64 acc) := hS.cell rfl
  have y1 : (w4.setCell ⟨B, 2, none⟩ (.int .i64 d)).cell? ⟨B, 1, none⟩ = some (.slice a' nn k') := hS.cell rfl
  have y2 : (w4.setCell ⟨B, 2, none⟩ (.int .i64 d)).cell? ⟨B, 2, none⟩ = some (.int .i64 d) := hS.cell rfl
  have hBR : w.heap.size + 1 ≠ B := by have := HB.out; simp at this; omega
  have hRb : Blk (w4.setCell ⟨B, 2, none⟩ (.int .i64 d)) (w.heap.size + 1) 24 [.int .i64 0, .slice none 0 0, .int .i64 0] := by
    have h := (res_blk1 w _).belowS HW.out
    exact h.set_other ⟨B, 2, none⟩ hBR _
  have HX := Lib.hid hRb
  have HY := Lib.hid hLed
  have hre := res_facts hRb (.int .i64 acc) (.slice a' nn k') (.int .i64 d)
  have HRE := Lib.hid hre
  obtain ⟨r1, r2, r3, r4, r5, r6, r7, r8, r9, r10⟩ := hre
  clear hS hLed hRb hne hR' hnn
  go_wp2
  obtain ⟨_, _, _, _, _, _, _, _, _, r10⟩ := HRE.out
  refine bodyPost_ret (results_list (rs := [.cell 4 24, .tmp 5]) rfl (by simp) (.cell _ _ _ (0, 0) _ rfl r10 Tryd.underlying24 rfl (by kernel_rfl) (.tmp .nil))) rfl ?_
  have hbw : Below w.heap.size w (w4.setCell ⟨B, 2, none⟩ (.int .i64 d)) := (Below.trans (below2 w _ _) (HW.out.mono (below2 w _ _).size)).setCell (p := ⟨B, 2, none⟩) (by have := HB.out; simp at this; show w.heap.size ≤ B; omega) _
  refine ⟨_, rfl, ?_, res_below hbw (by omega) _ _ _⟩
  exact Kd.R_lower (res_keep (Kd.R_set HRR.out HY.out.heap (by decide) 2 _) HX.out _ _ _) (below2 w _ _).size
end Go.Proofs.YtooogaogbffjfaaDoor.Ext
end
section
set_option linter.unusedVariables false
set_option linter.unusedSimpArgs false
namespace Go.Proofs.YtooogaogbffjfaaDoor.Ext
set_option maxRecDepth 100000
open Go.RowKit Go.Proofs.YtooogaogbffjfaaDoorW.PrintWords Go.Proofs.YtooogaogbffjfaaDoorW.PrintLast Go.Proofs.YtooogaogbffjfaaDoorW.PrintMore Go.Proofs.YtooogaogbffjfaaDoor.PK Go.Proofs.YtooogaogbffjfaaDoor.Bk
attribute [local go_sem] Oper.semAt_some
theorem arg_ps (w : World) (b : Obj) {w2 : World} {acc clo : Int} {A : Option Addr} {n k : Nat} (hb : Below ((w.alloc (.cells #[.int .i64 acc, .slice A n k, .int .i64 clo] 24)).alloc b).heap.size ((w.alloc (.cells #[.int .i64 acc, .slice A n k, .int .i64 clo] 24)).alloc b) w2) :
    w2.cell? ⟨w.heap.size, 1, none⟩ = some (.slice A n k) := keepB hb (c_old (c_new _ _ _ _ _ _ rfl rfl))
theorem open_yes' (acc clo : Int) (A : Option Addr) (c n : Nat) (ps : List S27) (hl : ps.length = n) (w : World) (hr : Kd.C k27 w A n ps) (hn : n ≤ 1000000) (h : okAll acc [] ps = true) (b : Bool) (hb : inB acc clo = b) :
    Calls Tryd.prog 33 #[.agg #[.int .i64 acc, .slice A n c, .int .i64 clo]] w fun e w' => ∃ B, e = .returned (.tuple #[.pointer (some ⟨B, 0, none⟩), .bool b]) ∧ Ledger w w' B acc clo ps := by
  subst hl
  exact open_yes acc clo A c ps w hr hn h b hb
theorem open_no' (acc clo : Int) (A : Option Addr) (c n : Nat) (ps : List S27) (hl : ps.length = n) (w : World) (hr : Kd.C k27 w A n ps) (hn : n ≤ 1000000) (h : okAll acc [] ps = false) :
    Calls Tryd.prog 33 #[.agg #[.int .i64 acc, .slice A n c, .int .i64 clo]] w fun e w' => e = .returned (.tuple #[.pointer none, .bool false]) ∧ Below w.heap.size w w' := by
  subst hl
  exact open_no acc clo A c ps w hr hn h
set_option maxRecDepth 100000 in
set_option maxHeartbeats 4000000 in
theorem Dispute_no1 (acc clo : Int) (A : Option Addr) (c n : Nat) (ps : List S27) (hl : ps.length = n) (i day amount : Int) (w : World) (hr : Kd.C k27 w A n ps) (hn : n ≤ 1000000) (ho : okAll acc [] ps = false) :
    Calls Tryd.prog 19 #[.agg #[.int .i64 acc, .slice A n c, .int .i64 clo], .int .i64 i, .int .i64 day, .int .i64 amount] w fun e w' => e = .returned (.tuple #[.agg #[.int .i64 0, .slice none 0 0, .int .i64 0], .int .i64 240]) ∧ Below w.heap.size w w' := by
  have HR := Lib.hid hr
  have HN := Lib.hid hn
  have HL := Lib.hid hl
  have HO := Lib.hid ho
  clear hr ho hl hn
  go_enter Tryd.func19, Tryd.ntmps19
  go_wp2_with (first | (go_at_call 33; refine (open_no' acc clo A c n ps HL.out _ (Kd.C_alloc (Kd.C_alloc HR.out _) _) HN.out HO.out).mono ?_; rintro e w2 ⟨rfl, hb2⟩; have hR := (res_blk1 w _).belowS hb2; obtain ⟨r1, r2, r3, r4, r5, r6, r7, r8, r9, r10⟩ := res_facts hR (.int .i64 0) (.slice none 0 0) (.int .i64 0)) | fail)
  refine bodyPost_ret (results_list (rs := [.cell 8 24, .tmp 9]) rfl (by simp) (.cell _ _ _ (0, 0) _ rfl r10 Tryd.underlying24 rfl (by kernel_rfl) (.tmp .nil))) rfl ?_
  exact ⟨rfl, res_below (Below.trans (below2 w _ _) (hb2.mono (below2 w _ _).size)) (by omega) _ _ _⟩
set_option maxRecDepth 100000 in
set_option maxHeartbeats 4000000 in
theorem Dispute_no2 (acc clo : Int) (A : Option Addr) (c n : Nat) (ps : List S27) (hl : ps.length = n) (i day amount : Int) (w : World) (hr : Kd.C k27 w A n ps) (hn : n ≤ 1000000) (ho : okAll acc [] ps = true) (hi : inB acc clo = false) :
    Calls Tryd.prog 19 #[.agg #[.int .i64 acc, .slice A n c, .int .i64 clo], .int .i64 i, .int .i64 day, .int .i64 amount] w fun e w' => e = .returned (.tuple #[.agg #[.int .i64 0, .slice none 0 0, .int .i64 0], .int .i64 240]) ∧ Below w.heap.size w w' := by
  have HR := Lib.hid hr
  have HN := Lib.hid hn
  have HL := Lib.hid hl
  have HO := Lib.hid ho
  have HI := Lib.hid hi
  clear hr ho hi hl hn
  go_enter Tryd.func19, Tryd.ntmps19
  go_wp2_with (first | (go_at_call 33; refine (open_yes' acc clo A c n ps HL.out _ (Kd.C_alloc (Kd.C_alloc HR.out _) _) HN.out HO.out false HI.out).mono ?_; rintro e w2 ⟨B, rfl, hL2⟩; have hR := (res_blk1 w _).belowS hL2.1; obtain ⟨r1, r2, r3, r4, r5, r6, r7, r8, r9, r10⟩ := res_facts hR (.int .i64 0) (.slice none 0 0) (.int .i64 0)) | fail)
  refine bodyPost_ret (results_list (rs := [.cell 8 24, .tmp 9]) rfl (by simp) (.cell _ _ _ (0, 0) _ rfl r10 Tryd.underlying24 rfl (by kernel_rfl) (.tmp .nil))) rfl ?_
  exact ⟨rfl, res_below (Below.trans (below2 w _ _) (hL2.1.mono (below2 w _ _).size)) (by omega) _ _ _⟩
set_option maxRecDepth 100000 in
set_option maxHeartbeats 4000000 in
theorem Dispute_no3 (acc clo : Int) (A : Option Addr) (c n : Nat) (ps : List S27) (hl : ps.length = n) (i day amount : Int) (w : World) (hr : Kd.C k27 w A n ps) (hn : n ≤ 1000000) (ho : okAll acc [] ps = true) (hi : inB acc clo = true) (h0 : decide (i < 0) = true) :
    Calls Tryd.prog 19 #[.agg #[.int .i64 acc, .slice A n c, .int .i64 clo], .int .i64 i, .int .i64 day, .int .i64 amount] w fun e w' => e = .returned (.tuple #[.agg #[.int .i64 0, .slice none 0 0, .int .i64 0], .int .i64 240]) ∧ Below w.heap.size w w' := by
  have HR := Lib.hid hr
  have HN := Lib.hid hn
  have HL := Lib.hid hl
  have HO := Lib.hid ho
  have HI := Lib.hid hi
  clear hr ho hi hl hn
  go_enter Tryd.func19, Tryd.ntmps19
  go_wp2_with (first | (go_at_call 33; refine (open_yes' acc clo A c n ps HL.out _ (Kd.C_alloc (Kd.C_alloc HR.out _) _) HN.out HO.out true HI.out).mono ?_; rintro e w2 ⟨B, rfl, hL2⟩; have hR := (res_blk1 w _).belowS hL2.1; obtain ⟨r1, r2, r3, r4, r5, r6, r7, r8, r9, r10⟩ := res_facts hR (.int .i64 0) (.slice none 0 0) (.int .i64 0)) | fail)
  refine bodyPost_ret (results_list (rs := [.cell 8 24, .tmp 9]) rfl (by simp) (.cell _ _ _ (0, 0) _ rfl r10 Tryd.underlying24 rfl (by kernel_rfl) (.tmp .nil))) rfl ?_
  exact ⟨rfl, res_below (Below.trans (below2 w _ _) (hL2.1.mono (below2 w _ _).size)) (by omega) _ _ _⟩
set_option maxRecDepth 100000 in
set_option maxHeartbeats 4000000 in
theorem Dispute_no4 (acc clo : Int) (A : Option Addr) (c n : Nat) (ps : List S27) (hl : ps.length = n) (i day amount : Int) (w : World) (hr : Kd.C k27 w A n ps) (hn : n ≤ 1000000) (ho : okAll acc [] ps = true) (hi : inB acc clo = true) (h0 : decide (i < 0) = false) (h1 : decide ((n : Int) ≤ i) = true) :
    Calls Tryd.prog 19 #[.agg #[.int .i64 acc, .slice A n c, .int .i64 clo], .int .i64 i, .int .i64 day, .int .i64 amount] w fun e w' => e = .returned (.tuple #[.agg #[.int .i64 0, .slice none 0 0, .int .i64 0], .int .i64 240]) ∧ Below w.heap.size w w' := by
  have HR := Lib.hid hr
  have HN := Lib.hid hn
  have HL := Lib.hid hl
  have HO := Lib.hid ho
  have HI := Lib.hid hi
  clear hr ho hi hl hn
  go_enter Tryd.func19, Tryd.ntmps19
  go_wp2_with (first | (go_at_call 33; refine (open_yes' acc clo A c n ps HL.out _ (Kd.C_alloc (Kd.C_alloc HR.out _) _) HN.out HO.out true HI.out).mono ?_; rintro e w2 ⟨B, rfl, hL2⟩; have hps := arg_ps w _ hL2.1; have hR := (res_blk1 w _).belowS hL2.1; obtain ⟨r1, r2, r3, r4, r5, r6, r7, r8, r9, r10⟩ := res_facts hR (.int .i64 0) (.slice none 0 0) (.int .i64 0)) | fail)
  refine bodyPost_ret (results_list (rs := [.cell 8 24, .tmp 9]) rfl (by simp) (.cell _ _ _ (0, 0) _ rfl r10 Tryd.underlying24 rfl (by kernel_rfl) (.tmp .nil))) rfl ?_
  exact ⟨rfl, res_below (Below.trans (below2 w _ _) (hL2.1.mono (below2 w _ _).size)) (by omega) _ _ _⟩
set_option maxRecDepth 100000 in
set_option maxHeartbeats 4000000 in
theorem Dispute_no5 (acc clo : Int) (A : Option Addr) (c n : Nat) (ps : List S27) (hl : ps.length = n) (i day amount : Int) (w : World) (hr : Kd.C k27 w A n ps) (hn : n ≤ 1000000) (ho : okAll acc [] ps = true) (hi : inB acc clo = true) (h0 : decide (i < 0) = false) (h1 : decide ((n : Int) ≤ i) = false) (hc : decide (0 ≤ amount ∧ amount ≤ 1000000000000) = false) :
    Calls Tryd.prog 19 #[.agg #[.int .i64 acc, .slice A n c, .int .i64 clo], .int .i64 i, .int .i64 day, .int .i64 amount] w fun e w' => e = .returned (.tuple #[.agg #[.int .i64 0, .slice none 0 0, .int .i64 0], .int .i64 240]) ∧ Below w.heap.size w w' := by
  have HR := Lib.hid hr
  have HN := Lib.hid hn
  have HL := Lib.hid hl
  have HO := Lib.hid ho
  have HI := Lib.hid hi
  have HC := Lib.hid hc
  clear hr ho hi hl hn hc
  go_enter Tryd.func19, Tryd.ntmps19
  go_wp2_with (first | (go_at_call 33; refine (open_yes' acc clo A c n ps HL.out _ (Kd.C_alloc (Kd.C_alloc HR.out _) _) HN.out HO.out true HI.out).mono ?_; rintro e w2 ⟨B, rfl, hL2⟩; have hps := arg_ps w _ hL2.1) | (go_at_call 41; (with_reducible refine (isIn_walk' amount 0 1000000000000 false HC.out _).mono ?_); rintro e w4 ⟨rfl, hd4⟩; have hb4 := Below.trans hL2.1 (hd4.below.mono hL2.1.size); have hR := (res_blk1 w _).belowS hb4; obtain ⟨r1, r2, r3, r4, r5, r6, r7, r8, r9, r10⟩ := res_facts hR (.int .i64 0) (.slice none 0 0) (.int .i64 0)) | fail)
  refine bodyPost_ret (results_list (rs := [.cell 8 24, .tmp 9]) rfl (by simp) (.cell _ _ _ (0, 0) _ rfl r10 Tryd.underlying24 rfl (by kernel_rfl) (.tmp .nil))) rfl ?_
  exact ⟨rfl, res_below (Below.trans (below2 w _ _) (hb4.mono (below2 w _ _).size)) (by omega) _ _ _⟩
end Go.Proofs.YtooogaogbffjfaaDoor.Ext
end
section
set_option linter.unusedVariables false
set_option linter.unusedSimpArgs false
namespace Go.Proofs.YtooogaogbffjfaaDoor.Ext
set_option maxRecDepth 100000
open Go.RowKit Go.Proofs.YtooogaogbffjfaaDoorW.PrintWords Go.Proofs.YtooogaogbffjfaaDoorW.PrintLast Go.Proofs.YtooogaogbffjfaaDoorW.PrintMore Go.Proofs.YtooogaogbffjfaaDoor.PK Go.Proofs.YtooogaogbffjfaaDoor.Bk
attribute [local go_sem] Oper.semAt_some
def backP (p : S27) (o : Nat) (day : Int) : S27 := ⟨3, day, p.f3, p.f2, p.f4, p.f5, o⟩
def newP (p : S27) (day amount : Int) : S27 := ⟨p.f0, day, p.f2, p.f3, amount, p.f5, p.f6⟩
def dispW (w4 : World) (p : S27) (o : Nat) (day : Int) : World := (w4.alloc (.cells #[.int .i64 p.f0, .int .i64 p.f1, .int .i64 p.f2, .int .i64 p.f3, .int .i64 p.f4, .int .i64 p.f5, .int .i64 p.f6] 27)).alloc (.cells #[.int .i64 3, .int .i64 day, .int .i64 p.f3, .int .i64 p.f2, .int .i64 p.f4, .int .i64 p.f5, .int .i64 (o : Int)] 27)
theorem disp_mem (w4 : World) (p : S27) (o : Nat) (day amount : Int) : (dispW w4 p o day).cell? ⟨w4.heap.size, 1, none⟩ = some (.int .i64 p.f1) ∧ (dispW w4 p o day).frozen? ⟨w4.heap.size, 1, none⟩ = false ∧
    ((dispW w4 p o day).setCell ⟨w4.heap.size, 1, none⟩ (.int .i64 day)).cell? ⟨w4.heap.size, 4, none⟩ = some (.int .i64 p.f4) ∧ ((dispW w4 p o day).setCell ⟨w4.heap.size, 1, none⟩ (.int .i64 day)).frozen? ⟨w4.heap.size, 4, none⟩ = false ∧
    Blk (((dispW w4 p o day).setCell ⟨w4.heap.size, 1, none⟩ (.int .i64 day)).setCell ⟨w4.heap.size, 4, none⟩ (.int .i64 amount)) w4.heap.size 27 (pcells (newP p day amount)) ∧ Blk (((dispW w4 p o day).setCell ⟨w4.heap.size, 1, none⟩ (.int .i64 day)).setCell ⟨w4.heap.size, 4, none⟩ (.int .i64 amount)) (w4.heap.size + 1) 27 (pcells (backP p o day)) ∧
    Below w4.heap.size w4 (((dispW w4 p o day).setCell ⟨w4.heap.size, 1, none⟩ (.int .i64 day)).setCell ⟨w4.heap.size, 4, none⟩ (.int .i64 amount)) := by
  have h1 : Blk (dispW w4 p o day) w4.heap.size 27 (pcells p) := (Blk.new w4 27 (pcells p)).alloc _
  have h2 : Blk (dispW w4 p o day) (w4.heap.size + 1) 27 (pcells (backP p o day)) := by
    have h := Blk.new (w4.alloc (.cells #[.int .i64 p.f0, .int .i64 p.f1, .int .i64 p.f2, .int .i64 p.f3, .int .i64 p.f4, .int .i64 p.f5, .int .i64 p.f6] 27)) 27 (pcells (backP p o day))
    rw [show (w4.alloc (.cells #[.int .i64 p.f0, .int .i64 p.f1, .int .i64 p.f2, .int .i64 p.f3, .int .i64 p.f4, .int .i64 p.f5, .int .i64 p.f6] 27)).heap.size = w4.heap.size + 1 by simp] at h
    exact h
  have h3 := h1.set 1 (.int .i64 day)
  have hb : Below w4.heap.size w4 (dispW w4 p o day) := below2 w4 _ _
  exact ⟨h1.cell rfl, h1.free 1, h3.cell rfl, h3.free 4, h3.set 4 _, (h2.set_other ⟨w4.heap.size, 1, none⟩ (by simp) _).set_other ⟨w4.heap.size, 4, none⟩ (by simp) _, (hb.setCell (p := ⟨w4.heap.size, 1, none⟩) (Nat.le_refl _) _).setCell (p := ⟨w4.heap.size, 4, none⟩) (Nat.le_refl _) _⟩
theorem pc_cells {w : World} {B : Nat} {t : TypeId} {p : S27} (h : Blk w B t (pcells p)) : w.cell? ⟨B, 0, none⟩ = some (.int .i64 p.f0) ∧ w.cell? ⟨B, 1, none⟩ = some (.int .i64 p.f1) ∧ w.cell? ⟨B, 2, none⟩ = some (.int .i64 p.f2) ∧ w.cell? ⟨B, 3, none⟩ = some (.int .i64 p.f3) ∧ w.cell? ⟨B, 4, none⟩ = some (.int .i64 p.f4) ∧ w.cell? ⟨B, 5, none⟩ = some (.int .i64 p.f5) ∧ w.cell? ⟨B, 6, none⟩ = some (.int .i64 p.f6) :=
  ⟨h.cell rfl, h.cell rfl, h.cell rfl, h.cell rfl, h.cell rfl, h.cell rfl, h.cell rfl⟩
theorem bk_cells {w : World} {B : Nat} {t : TypeId} {p : S27} {o : Nat} {day : Int} (h : Blk w B t (pcells (backP p o day))) : w.cell? ⟨B, 0, none⟩ = some (.int .i64 3) ∧ w.cell? ⟨B, 1, none⟩ = some (.int .i64 day) ∧ w.cell? ⟨B, 2, none⟩ = some (.int .i64 p.f3) ∧ w.cell? ⟨B, 3, none⟩ = some (.int .i64 p.f2) ∧ w.cell? ⟨B, 4, none⟩ = some (.int .i64 p.f4) ∧ w.cell? ⟨B, 5, none⟩ = some (.int .i64 p.f5) ∧ w.cell? ⟨B, 6, none⟩ = some (.int .i64 (o : Int)) := pc_cells h
theorem nw_cells {w : World} {B : Nat} {t : TypeId} {p : S27} {day amount : Int} (h : Blk w B t (pcells (newP p day amount))) : w.cell? ⟨B, 0, none⟩ = some (.int .i64 p.f0) ∧ w.cell? ⟨B, 1, none⟩ = some (.int .i64 day) ∧ w.cell? ⟨B, 2, none⟩ = some (.int .i64 p.f2) ∧ w.cell? ⟨B, 3, none⟩ = some (.int .i64 p.f3) ∧ w.cell? ⟨B, 4, none⟩ = some (.int .i64 amount) ∧ w.cell? ⟨B, 5, none⟩ = some (.int .i64 p.f5) ∧ w.cell? ⟨B, 6, none⟩ = some (.int .i64 p.f6) := pc_cells h
theorem disp_own {ws w4 w6 : World} {B : Nat} {acc clo : Int} {ps : List S27} (h : Ledger ws w4 B acc clo ps) (hb : Below w4.heap.size w4 w6) (v : Value) (hv : w6.cell? ⟨B, 1, none⟩ = some v) : some w4.heap.size ≠ v.ownBlock := by
  obtain ⟨_, _, v0, h1, h2, _⟩ := h
  have h3 : w4.cell? ⟨B, 1, none⟩ = some v0 := h1.cell rfl
  rw [keepB hb h3] at hv
  obtain rfl := Option.some.inj hv
  exact fun e => Nat.lt_irrefl _ (Kd.R_lt h2 _ e.symm)
theorem post_len {acc clo : Int} {ps : List S27} {p : S27} (h : postB acc clo ps p = true) : (ps ++ [p]).length ≤ 200 := by
  unfold postB at h
  rw [Bool.and_eq_true] at h
  have := next_len h.2
  simp; omega
theorem post_back (ws w : World) (B : Nat) (acc clo : Int) (ps : List S27) (p : S27) (o : Nat) (day : Int) (hL : Ledger ws w B acc clo ps) (hps : ps.length ≤ 200) (hc : 0 ≤ clo ∧ clo ≤ 12) (r : Bool) (hr : postB acc clo ps (backP p o day) = r) :
    Calls Tryd.prog 40 #[.pointer (some ⟨B, 0, none⟩), .agg #[.int .i64 3, .int .i64 day, .int .i64 p.f3, .int .i64 p.f2, .int .i64 p.f4, .int .i64 p.f5, .int .i64 (o : Int)]] w fun e w' => e = .returned (.bool r) ∧ Ledger ws w' B acc clo (if r then ps ++ [backP p o day] else ps) ∧ Fram w w' B :=
  post_frame ws w B acc clo ps (backP p o day) hL hps hc r hr
theorem post_new (ws w : World) (B : Nat) (acc clo : Int) (ps : List S27) (p : S27) (day amount : Int) (hL : Ledger ws w B acc clo ps) (hps : ps.length ≤ 200) (hc : 0 ≤ clo ∧ clo ≤ 12) (r : Bool) (hr : postB acc clo ps (newP p day amount) = r) :
    Calls Tryd.prog 40 #[.pointer (some ⟨B, 0, none⟩), .agg #[.int .i64 p.f0, .int .i64 day, .int .i64 p.f2, .int .i64 p.f3, .int .i64 amount, .int .i64 p.f5, .int .i64 p.f6]] w fun e w' => e = .returned (.bool r) ∧ Ledger ws w' B acc clo (if r then ps ++ [newP p day amount] else ps) :=
  post_walk ws w B acc clo ps (newP p day amount) hL hps hc r hr
set_option maxRecDepth 100000 in
set_option maxHeartbeats 4000000 in
theorem Dispute_no6 (acc clo : Int) (A : Option Addr) (c n : Nat) (ps : List S27) (hl : ps.length = n) (i day amount : Int) (w : World) (hr : Kd.C k27 w A n ps) (hn : n ≤ 1000000) (ho : okAll acc [] ps = true) (hi : inB acc clo = true) (o : Nat) (hio : i = (o : Int)) (h0 : decide (i < 0) = false) (h1 : decide ((n : Int) ≤ i) = false) (hc : decide (0 ≤ amount ∧ amount ≤ 1000000000000) = true) (p : S27) (hp : rd_T27 ps (o : Int) = p) (hb1 : postB acc clo ps (backP p o day) = false) :
    Calls Tryd.prog 19 #[.agg #[.int .i64 acc, .slice A n c, .int .i64 clo], .int .i64 i, .int .i64 day, .int .i64 amount] w fun e w' => e = .returned (.tuple #[.agg #[.int .i64 0, .slice none 0 0, .int .i64 0], .int .i64 240]) ∧ Below w.heap.size w w' := by
  have HR := Lib.hid hr
  have HN := Lib.hid hn
  have HL := Lib.hid hl
  have HO := Lib.hid ho
  have HI := Lib.hid hi
  have HC := Lib.hid hc
  have HPS := Lib.hid (okAll_200 ho)
  have HP := Lib.hid hp
  have HIO := Lib.hid hio
  have HB1 := Lib.hid hb1
  clear hb1
  clear hr ho hi hl hn hc hp hio
  go_enter Tryd.func19, Tryd.ntmps19
  go_upto_region 4 with (first | (go_at_call 33; refine (open_yes' acc clo A c n ps HL.out _ (Kd.C_alloc (Kd.C_alloc HR.out _) _) HN.out HO.out true HI.out).mono ?_; rintro e w2 ⟨B, rfl, hL2⟩; have hps := arg_ps w _ hL2.1) | (go_at_call 41; (with_reducible refine (isIn_walk' amount 0 1000000000000 true HC.out _).mono ?_); rintro e w4 ⟨rfl, hd4⟩; have hp4 := keepB hd4.below hps; have HL4 := Lib.hid (hL2.below hd4.below)) | fail)
  clear hL2 hps
  obtain rfl := HIO.out
  clear HIO
  have HC4 := Lib.hid (Kd.C_below (Kd.C_alloc (Kd.C_alloc HR.out _) _) HL4.out.1)
  obtain ⟨ad, rfl, x0, x1, x2, x3, x4, x5, x6⟩ := at_T27 HC4.out (o : Int) (by omega) (by have := of_decide_eq_false h1; omega)
  rw [HP.out] at x0 x1 x2 x3 x4 x5 x6
  rw [Int.toNat_natCast] at x0 x1 x2 x3 x4 x5 x6
  have hon : (o : Int) < (n : Int) := by have := of_decide_eq_false h1; omega
  go_upto_region 6 with (first | fail)
  clear x0 x1 x2 x3 x4 x5 x6
  obtain ⟨m1, m2, m3, m4, m5, m6, m7⟩ := disp_mem w4 p o day amount
  change Code.wp _ _ _ _ (dispW w4 p o day)
  have HM5 := Lib.hid m5
  have HM6 := Lib.hid m6
  have HL6 := Lib.hid (HL4.out.below m7)
  clear m5 m6
  generalize dispW w4 p o day = w5 at *
  go_upto_region 7 with (first | fail)
  have HQB := Lib.hid (show w4.heap.size ≠ B from fun e => by obtain ⟨_, _, _, hld, _⟩ := HL4.out; have := hld.lt; omega)
  have HQV : Hid (∀ v, ((w5.setCell ⟨w4.heap.size, 1, none⟩ (.int .i64 day)).setCell ⟨w4.heap.size, 4, none⟩ (.int .i64 amount)).cell? ⟨B, 1, none⟩ = some v → some w4.heap.size ≠ v.ownBlock) := Lib.hid (disp_own HL4.out m7)
  generalize (w5.setCell ⟨w4.heap.size, 1, none⟩ (.int .i64 day)).setCell ⟨w4.heap.size, 4, none⟩ (.int .i64 amount) = w6 at *
  generalize w4.heap.size = q at *
  clear m1 m2 m3 m4 m7 hp4
  obtain ⟨z0, z1, z2, z3, z4, z5, z6⟩ := bk_cells HM6.out
  go_wp2_with (first | (go_at_call 40; (with_reducible refine (post_back _ _ B acc clo ps p o day HL6.out HPS.out (clo_of HI.out) false HB1.out).mono ?_); rintro e w7 ⟨rfl, hL7, hFr7⟩; have hR := (res_blk1 w _).belowS hL7.1; obtain ⟨r1, r2, r3, r4, r5, r6, r7, r8, r9, r10⟩ := res_facts hR (.int .i64 0) (.slice none 0 0) (.int .i64 0)) | fail)
  refine bodyPost_ret (results_list (rs := [.cell 8 24, .tmp 9]) rfl (by simp) (.cell _ _ _ (0, 0) _ rfl r10 Tryd.underlying24 rfl (by kernel_rfl) (.tmp .nil))) rfl ?_
  exact ⟨rfl, res_below (Below.trans (below2 w _ _) (hL7.1.mono (below2 w _ _).size)) (by omega) _ _ _⟩
set_option maxRecDepth 100000 in
set_option maxHeartbeats 4000000 in
theorem Dispute_no7 (acc clo : Int) (A : Option Addr) (c n : Nat) (ps : List S27) (hl : ps.length = n) (i day amount : Int) (w : World) (hr : Kd.C k27 w A n ps) (hn : n ≤ 1000000) (ho : okAll acc [] ps = true) (hi : inB acc clo = true) (o : Nat) (hio : i = (o : Int)) (h0 : decide (i < 0) = false) (h1 : decide ((n : Int) ≤ i) = false) (hc : decide (0 ≤ amount ∧ amount ≤ 1000000000000) = true) (p : S27) (hp : rd_T27 ps (o : Int) = p) (hb1 : postB acc clo ps (backP p o day) = true) (hap : decide (0 < amount) = true) (hb2 : postB acc clo (ps ++ [backP p o day]) (newP p day amount) = false) :
    Calls Tryd.prog 19 #[.agg #[.int .i64 acc, .slice A n c, .int .i64 clo], .int .i64 i, .int .i64 day, .int .i64 amount] w fun e w' => e = .returned (.tuple #[.agg #[.int .i64 0, .slice none 0 0, .int .i64 0], .int .i64 240]) ∧ Below w.heap.size w w' := by
  have HR := Lib.hid hr
  have HN := Lib.hid hn
  have HL := Lib.hid hl
  have HO := Lib.hid ho
  have HI := Lib.hid hi
  have HC := Lib.hid hc
  have HPS := Lib.hid (okAll_200 ho)
  have HP := Lib.hid hp
  have HIO := Lib.hid hio
  have HB1 := Lib.hid hb1
  have HB2 := Lib.hid hb2
  have HPS2 := Lib.hid (post_len hb1)
  clear hb1 hb2
  clear hr ho hi hl hn hc hp hio
  go_enter Tryd.func19, Tryd.ntmps19
  go_upto_region 4 with (first | (go_at_call 33; refine (open_yes' acc clo A c n ps HL.out _ (Kd.C_alloc (Kd.C_alloc HR.out _) _) HN.out HO.out true HI.out).mono ?_; rintro e w2 ⟨B, rfl, hL2⟩; have hps := arg_ps w _ hL2.1) | (go_at_call 41; (with_reducible refine (isIn_walk' amount 0 1000000000000 true HC.out _).mono ?_); rintro e w4 ⟨rfl, hd4⟩; have hp4 := keepB hd4.below hps; have HL4 := Lib.hid (hL2.below hd4.below)) | fail)
  clear hL2 hps
  obtain rfl := HIO.out
  clear HIO
  have HC4 := Lib.hid (Kd.C_below (Kd.C_alloc (Kd.C_alloc HR.out _) _) HL4.out.1)
  obtain ⟨ad, rfl, x0, x1, x2, x3, x4, x5, x6⟩ := at_T27 HC4.out (o : Int) (by omega) (by have := of_decide_eq_false h1; omega)
  rw [HP.out] at x0 x1 x2 x3 x4 x5 x6
  rw [Int.toNat_natCast] at x0 x1 x2 x3 x4 x5 x6
  have hon : (o : Int) < (n : Int) := by have := of_decide_eq_false h1; omega
  go_upto_region 6 with (first | fail)
  clear x0 x1 x2 x3 x4 x5 x6
  obtain ⟨m1, m2, m3, m4, m5, m6, m7⟩ := disp_mem w4 p o day amount
  change Code.wp _ _ _ _ (dispW w4 p o day)
  have HM5 := Lib.hid m5
  have HM6 := Lib.hid m6
  have HL6 := Lib.hid (HL4.out.below m7)
  clear m5 m6
  generalize dispW w4 p o day = w5 at *
  go_upto_region 7 with (first | fail)
  have HQB := Lib.hid (show w4.heap.size ≠ B from fun e => by obtain ⟨_, _, _, hld, _⟩ := HL4.out; have := hld.lt; omega)
  have HQV : Hid (∀ v, ((w5.setCell ⟨w4.heap.size, 1, none⟩ (.int .i64 day)).setCell ⟨w4.heap.size, 4, none⟩ (.int .i64 amount)).cell? ⟨B, 1, none⟩ = some v → some w4.heap.size ≠ v.ownBlock) := Lib.hid (disp_own HL4.out m7)
  generalize (w5.setCell ⟨w4.heap.size, 1, none⟩ (.int .i64 day)).setCell ⟨w4.heap.size, 4, none⟩ (.int .i64 amount) = w6 at *
  generalize w4.heap.size = q at *
  clear m1 m2 m3 m4 m7 hp4
  obtain ⟨z0, z1, z2, z3, z4, z5, z6⟩ := bk_cells HM6.out
  go_wp2_with (first | (go_at_call 40; (with_reducible refine (post_back _ _ B acc clo ps p o day HL6.out HPS.out (clo_of HI.out) true HB1.out).mono ?_); rintro e w7 ⟨rfl, hL7, hFr7⟩; have HL7 : Hid (Ledger _ w7 B acc clo (ps ++ [backP p o day])) := Lib.hid hL7; clear hL7; clear z0 z1 z2 z3 z4 z5 z6; obtain ⟨z0, z1, z2, z3, z4, z5, z6⟩ := nw_cells (hFr7 _ _ _ HM5.out HQB.out HQV.out); clear hFr7) | (go_at_call 40; (with_reducible refine (post_new _ _ B acc clo (ps ++ [backP p o day]) p day amount HL7.out HPS2.out (clo_of HI.out) false HB2.out).mono ?_); rintro e w8 ⟨rfl, hL8⟩; have hR := (res_blk1 w _).belowS hL8.1; obtain ⟨r1, r2, r3, r4, r5, r6, r7, r8, r9, r10⟩ := res_facts hR (.int .i64 0) (.slice none 0 0) (.int .i64 0)) | fail)
  refine bodyPost_ret (results_list (rs := [.cell 8 24, .tmp 9]) rfl (by simp) (.cell _ _ _ (0, 0) _ rfl r10 Tryd.underlying24 rfl (by kernel_rfl) (.tmp .nil))) rfl ?_
  exact ⟨rfl, res_below (Below.trans (below2 w _ _) (hL8.1.mono (below2 w _ _).size)) (by omega) _ _ _⟩
set_option maxRecDepth 100000 in
set_option maxHeartbeats 4000000 in
theorem Dispute_yes1 (acc clo : Int) (A : Option Addr) (c n : Nat) (ps : List S27) (hl : ps.length = n) (i day amount : Int) (w : World) (hr : Kd.C k27 w A n ps) (hn : n ≤ 1000000) (ho : okAll acc [] ps = true) (hi : inB acc clo = true) (o : Nat) (hio : i = (o : Int)) (h0 : decide (i < 0) = false) (h1 : decide ((n : Int) ≤ i) = false) (hc : decide (0 ≤ amount ∧ amount ≤ 1000000000000) = true) (p : S27) (hp : rd_T27 ps (o : Int) = p) (h00 : amount = 0) (hb1 : postB acc clo ps (backP p o day) = true) :
    Calls Tryd.prog 19 #[.agg #[.int .i64 acc, .slice A n c, .int .i64 clo], .int .i64 i, .int .i64 day, .int .i64 amount] w fun e w' => ∃ v1 : Value, e = .returned (.tuple #[.agg #[.int .i64 acc, v1, .int .i64 clo], .int .i64 0]) ∧ Kd.R k27 27 w' w.heap.size (fun _ => True) v1 (ps ++ [backP p o day]) ∧ Below w.heap.size w w' := by
  have HR := Lib.hid hr
  have HN := Lib.hid hn
  have HL := Lib.hid hl
  have HO := Lib.hid ho
  have HI := Lib.hid hi
  have HC := Lib.hid hc
  have HPS := Lib.hid (okAll_200 ho)
  have HP := Lib.hid hp
  have HIO := Lib.hid hio
  have HB1 := Lib.hid hb1
  clear hb1
  have H00 := Lib.hid h00
  clear h00
  clear hr ho hi hl hn hc hp hio
  go_enter Tryd.func19, Tryd.ntmps19
  go_upto_region 4 with (first | (go_at_call 33; refine (open_yes' acc clo A c n ps HL.out _ (Kd.C_alloc (Kd.C_alloc HR.out _) _) HN.out HO.out true HI.out).mono ?_; rintro e w2 ⟨B, rfl, hL2⟩; have hps := arg_ps w _ hL2.1) | (go_at_call 41; (with_reducible refine (isIn_walk' amount 0 1000000000000 true HC.out _).mono ?_); rintro e w4 ⟨rfl, hd4⟩; have hp4 := keepB hd4.below hps; have HL4 := Lib.hid (hL2.below hd4.below)) | fail)
  clear hL2 hps
  obtain rfl := HIO.out
  clear HIO
  have HC4 := Lib.hid (Kd.C_below (Kd.C_alloc (Kd.C_alloc HR.out _) _) HL4.out.1)
  obtain ⟨ad, rfl, x0, x1, x2, x3, x4, x5, x6⟩ := at_T27 HC4.out (o : Int) (by omega) (by have := of_decide_eq_false h1; omega)
  rw [HP.out] at x0 x1 x2 x3 x4 x5 x6
  rw [Int.toNat_natCast] at x0 x1 x2 x3 x4 x5 x6
  have hon : (o : Int) < (n : Int) := by have := of_decide_eq_false h1; omega
  go_upto_region 6 with (first | fail)
  clear x0 x1 x2 x3 x4 x5 x6
  obtain ⟨m1, m2, m3, m4, m5, m6, m7⟩ := disp_mem w4 p o day amount
  change Code.wp _ _ _ _ (dispW w4 p o day)
  have HM5 := Lib.hid m5
  have HM6 := Lib.hid m6
  have HL6 := Lib.hid (HL4.out.below m7)
  clear m5 m6
  generalize dispW w4 p o day = w5 at *
  go_upto_region 7 with (first | fail)
  have HQB := Lib.hid (show w4.heap.size ≠ B from fun e => by obtain ⟨_, _, _, hld, _⟩ := HL4.out; have := hld.lt; omega)
  have HQV : Hid (∀ v, ((w5.setCell ⟨w4.heap.size, 1, none⟩ (.int .i64 day)).setCell ⟨w4.heap.size, 4, none⟩ (.int .i64 amount)).cell? ⟨B, 1, none⟩ = some v → some w4.heap.size ≠ v.ownBlock) := Lib.hid (disp_own HL4.out m7)
  generalize (w5.setCell ⟨w4.heap.size, 1, none⟩ (.int .i64 day)).setCell ⟨w4.heap.size, 4, none⟩ (.int .i64 amount) = w6 at *
  generalize w4.heap.size = q at *
  clear m1 m2 m3 m4 m7 hp4
  obtain ⟨z0, z1, z2, z3, z4, z5, z6⟩ := bk_cells HM6.out
  obtain rfl := H00.out
  go_upto_region 9 with (first | (go_at_call 40; (with_reducible refine (post_back _ _ B acc clo ps p o day HL6.out HPS.out (clo_of HI.out) true HB1.out).mono ?_); rintro e w7 ⟨rfl, hL7, hFr7⟩; have HL7 : Hid (Ledger _ w7 B acc clo (ps ++ [backP p o day])) := Lib.hid hL7; clear hL7) | fail)
  have HB := Lib.hid HL7.out.2.1
  have HW := Lib.hid HL7.out.1
  obtain ⟨a', k', nn, hnn, hLed, hR', hne⟩ := led_own HL7.out
  have HNN := Lib.hid hnn
  have HRR := Lib.hid hR'
  have y0 : w7.cell? ⟨B, 0, none⟩ = some (.int .i64 acc) := hLed.cell rfl
  have y1 : w7.cell? ⟨B, 1, none⟩ = some (.slice a' nn k') := hLed.cell rfl
  have y2 : w7.cell? ⟨B, 2, none⟩ = some (.int .i64 clo) := hLed.cell rfl
  have hRb : Blk w7 (w.heap.size + 1) 24 [.int .i64 0, .slice none 0 0, .int .i64 0] := by
    have h := (res_blk1 w _).belowS HW.out
    exact h
  have HX := Lib.hid hRb
  have hre := res_facts hRb (.int .i64 acc) (.slice a' nn k') (.int .i64 clo)
  have HRE := Lib.hid hre
  obtain ⟨r1, r2, r3, r4, r5, r6, r7, r8, r9, r10⟩ := hre
  clear hLed hRb hne hR' hnn
  go_wp2
  obtain ⟨_, _, _, _, _, _, _, _, _, r10⟩ := HRE.out
  refine bodyPost_ret (results_list (rs := [.cell 8 24, .tmp 9]) rfl (by simp) (.cell _ _ _ (0, 0) _ rfl r10 Tryd.underlying24 rfl (by kernel_rfl) (.tmp .nil))) rfl ?_
  refine ⟨_, rfl, ?_, res_below (Below.trans (below2 w _ _) (HW.out.mono (below2 w _ _).size)) (by omega) _ _ _⟩
  exact Kd.R_lower (res_keep HRR.out HX.out _ _ _) (below2 w _ _).size
set_option maxRecDepth 100000 in
set_option maxHeartbeats 4000000 in
theorem Dispute_yes2 (acc clo : Int) (A : Option Addr) (c n : Nat) (ps : List S27) (hl : ps.length = n) (i day amount : Int) (w : World) (hr : Kd.C k27 w A n ps) (hn : n ≤ 1000000) (ho : okAll acc [] ps = true) (hi : inB acc clo = true) (o : Nat) (hio : i = (o : Int)) (h0 : decide (i < 0) = false) (h1 : decide ((n : Int) ≤ i) = false) (hc : decide (0 ≤ amount ∧ amount ≤ 1000000000000) = true) (p : S27) (hp : rd_T27 ps (o : Int) = p) (hb1 : postB acc clo ps (backP p o day) = true) (hap : decide (0 < amount) = true) (hb2 : postB acc clo (ps ++ [backP p o day]) (newP p day amount) = true) :
    Calls Tryd.prog 19 #[.agg #[.int .i64 acc, .slice A n c, .int .i64 clo], .int .i64 i, .int .i64 day, .int .i64 amount] w fun e w' => ∃ v1 : Value, e = .returned (.tuple #[.agg #[.int .i64 acc, v1, .int .i64 clo], .int .i64 0]) ∧ Kd.R k27 27 w' w.heap.size (fun _ => True) v1 (ps ++ [backP p o day] ++ [newP p day amount]) ∧ Below w.heap.size w w' := by
  have HR := Lib.hid hr
  have HN := Lib.hid hn
  have HL := Lib.hid hl
  have HO := Lib.hid ho
  have HI := Lib.hid hi
  have HC := Lib.hid hc
  have HPS := Lib.hid (okAll_200 ho)
  have HP := Lib.hid hp
  have HIO := Lib.hid hio
  have HB1 := Lib.hid hb1
  have HB2 := Lib.hid hb2
  have HPS2 := Lib.hid (post_len hb1)
  clear hb1 hb2
  clear hr ho hi hl hn hc hp hio
  go_enter Tryd.func19, Tryd.ntmps19
  go_upto_region 4 with (first | (go_at_call 33; refine (open_yes' acc clo A c n ps HL.out _ (Kd.C_alloc (Kd.C_alloc HR.out _) _) HN.out HO.out true HI.out).mono ?_; rintro e w2 ⟨B, rfl, hL2⟩; have hps := arg_ps w _ hL2.1) | (go_at_call 41; (with_reducible refine (isIn_walk' amount 0 1000000000000 true HC.out _).mono ?_); rintro e w4 ⟨rfl, hd4⟩; have hp4 := keepB hd4.below hps; have HL4 := Lib.hid (hL2.below hd4.below)) | fail)
  clear hL2 hps
  obtain rfl := HIO.out
  clear HIO
  have HC4 := Lib.hid (Kd.C_below (Kd.C_alloc (Kd.C_alloc HR.out _) _) HL4.out.1)
  obtain ⟨ad, rfl, x0, x1, x2, x3, x4, x5, x6⟩ := at_T27 HC4.out (o : Int) (by omega) (by have := of_decide_eq_false h1; omega)
  rw [HP.out] at x0 x1 x2 x3 x4 x5 x6
  rw [Int.toNat_natCast] at x0 x1 x2 x3 x4 x5 x6
  have hon : (o : Int) < (n : Int) := by have := of_decide_eq_false h1; omega
  go_upto_region 6 with (first | fail)
  clear x0 x1 x2 x3 x4 x5 x6
  obtain ⟨m1, m2, m3, m4, m5, m6, m7⟩ := disp_mem w4 p o day amount
  change Code.wp _ _ _ _ (dispW w4 p o day)
  have HM5 := Lib.hid m5
  have HM6 := Lib.hid m6
  have HL6 := Lib.hid (HL4.out.below m7)
  clear m5 m6
  generalize dispW w4 p o day = w5 at *
  go_upto_region 7 with (first | fail)
  have HQB := Lib.hid (show w4.heap.size ≠ B from fun e => by obtain ⟨_, _, _, hld, _⟩ := HL4.out; have := hld.lt; omega)
  have HQV : Hid (∀ v, ((w5.setCell ⟨w4.heap.size, 1, none⟩ (.int .i64 day)).setCell ⟨w4.heap.size, 4, none⟩ (.int .i64 amount)).cell? ⟨B, 1, none⟩ = some v → some w4.heap.size ≠ v.ownBlock) := Lib.hid (disp_own HL4.out m7)
  generalize (w5.setCell ⟨w4.heap.size, 1, none⟩ (.int .i64 day)).setCell ⟨w4.heap.size, 4, none⟩ (.int .i64 amount) = w6 at *
  generalize w4.heap.size = q at *
  clear m1 m2 m3 m4 m7 hp4
  obtain ⟨z0, z1, z2, z3, z4, z5, z6⟩ := bk_cells HM6.out
  go_upto_region 9 with (first | (go_at_call 40; (with_reducible refine (post_back _ _ B acc clo ps p o day HL6.out HPS.out (clo_of HI.out) true HB1.out).mono ?_); rintro e w7 ⟨rfl, hL7, hFr7⟩; have HL7 : Hid (Ledger _ w7 B acc clo (ps ++ [backP p o day])) := Lib.hid hL7; clear hL7; clear z0 z1 z2 z3 z4 z5 z6; obtain ⟨z0, z1, z2, z3, z4, z5, z6⟩ := nw_cells (hFr7 _ _ _ HM5.out HQB.out HQV.out); clear hFr7) | (go_at_call 40; (with_reducible refine (post_new _ _ B acc clo (ps ++ [backP p o day]) p day amount HL7.out HPS2.out (clo_of HI.out) true HB2.out).mono ?_); rintro e w8 ⟨rfl, hL8⟩; have HL8 : Hid (Ledger _ w8 B acc clo (ps ++ [backP p o day] ++ [newP p day amount])) := Lib.hid hL8; clear hL8) | fail)
  have HB := Lib.hid HL8.out.2.1
  have HW := Lib.hid HL8.out.1
  obtain ⟨a', k', nn, hnn, hLed, hR', hne⟩ := led_own HL8.out
  have HNN := Lib.hid hnn
  have HRR := Lib.hid hR'
  have y0 : w8.cell? ⟨B, 0, none⟩ = some (.int .i64 acc) := hLed.cell rfl
  have y1 : w8.cell? ⟨B, 1, none⟩ = some (.slice a' nn k') := hLed.cell rfl
  have y2 : w8.cell? ⟨B, 2, none⟩ = some (.int .i64 clo) := hLed.cell rfl
  have hRb : Blk w8 (w.heap.size + 1) 24 [.int .i64 0, .slice none 0 0, .int .i64 0] := by
    have h := (res_blk1 w _).belowS HW.out
    exact h
  have HX := Lib.hid hRb
  have hre := res_facts hRb (.int .i64 acc) (.slice a' nn k') (.int .i64 clo)
  have HRE := Lib.hid hre
  obtain ⟨r1, r2, r3, r4, r5, r6, r7, r8, r9, r10⟩ := hre
  clear hLed hRb hne hR' hnn
  go_wp2
  obtain ⟨_, _, _, _, _, _, _, _, _, r10⟩ := HRE.out
  refine bodyPost_ret (results_list (rs := [.cell 8 24, .tmp 9]) rfl (by simp) (.cell _ _ _ (0, 0) _ rfl r10 Tryd.underlying24 rfl (by kernel_rfl) (.tmp .nil))) rfl ?_
  refine ⟨_, rfl, ?_, res_below (Below.trans (below2 w _ _) (HW.out.mono (below2 w _ _).size)) (by omega) _ _ _⟩
  exact Kd.R_lower (res_keep HRR.out HX.out _ _ _) (below2 w _ _).size
end Go.Proofs.YtooogaogbffjfaaDoor.Ext
end
section
set_option linter.unusedVariables false
set_option linter.unusedSimpArgs false
namespace Go.Proofs.YtooogaogbffjfaaDoor.Ext
set_option maxRecDepth 100000
open Go.RowKit Go.Proofs.YtooogaogbffjfaaDoorW.PrintWords Go.Proofs.YtooogaogbffjfaaDoorW.PrintLast Go.Proofs.YtooogaogbffjfaaDoorW.PrintMore Go.Proofs.YtooogaogbffjfaaDoor.PK Go.Proofs.YtooogaogbffjfaaDoor.Bk
attribute [local go_sem] Oper.semAt_some
def ints (l : List Int) : List Value := l.map (Value.int .i64)
theorem ints_len (l : List Int) : (ints l).length = l.length := by simp [ints]
theorem ints_get {l : List Int} {j : Nat} {x : Int} (h : l[j]? = some x) : (ints l)[j]? = some (.int .i64 x) := by simp [ints, h]
theorem ints_set (l : List Int) (j : Nat) (x : Int) : (ints l).set j (.int .i64 x) = ints (l.set j x) := by simp [ints, List.map_set]
def addB (bs : List Int) (p : S27) : List Int := (bs.set p.f3.toNat (bs.getD p.f3.toNat 0 + p.f4)).set p.f2.toNat (bs.getD p.f2.toNat 0 - p.f4)
theorem addB_len (bs : List Int) (p : S27) : (addB bs p).length = bs.length := by simp [addB]
theorem grown_set (w : World) (g k : Nat) (v : Value) : w.grownBy (w.setCell ⟨g, k, none⟩ v).drew (some g) := by
  have h := grown_setCells (b := g) [v] k w
  exact ⟨h.os, h.tape, h.output, h.size, h.block⟩
set_option maxRecDepth 100000 in
set_option maxHeartbeats 2000000 in
theorem add_walk (g : Nat) (bs : List Int) (hl : bs.length = 16) (p : S27) (c d : Nat) (hc : p.f3 = (c : Int)) (hd : p.f2 = (d : Int)) (hc2 : c < 16) (hd2 : d < 16) (hne : d ≠ c) (x y : Int) (hx : bs[c]? = some x) (hy : bs[d]? = some y) (x1 y1 : Int) (hx1 : IntKind.i64.wrap (x + p.f4) = x1) (hy1 : IntKind.i64.wrap (y - p.f4) = y1) (w : World) (hB : Blk w g 85 (ints bs)) :
    Calls Tryd.prog 44 #[.pointer (some ⟨g, 0, none⟩), pv p] w fun e w' => e = .returned (.tuple #[]) ∧ w.grownBy w' (some g) ∧ Blk w' g 85 (ints ((bs.set c x1).set d y1)) := by
  have hBa := hB.alloc (.cells #[.int .i64 p.f0, .int .i64 p.f1, .int .i64 (d : Int), .int .i64 (c : Int), .int .i64 p.f4, .int .i64 p.f5, .int .i64 p.f6] 27)
  have e2 : (w.alloc (.cells #[.int .i64 p.f0, .int .i64 p.f1, .int .i64 (d : Int), .int .i64 (c : Int), .int .i64 p.f4, .int .i64 p.f5, .int .i64 p.f6] 27)).cell? ⟨w.heap.size, 2, none⟩ = some (.int .i64 (d : Int)) := c_new _ _ _ _ _ _ rfl rfl
  have e3 : (w.alloc (.cells #[.int .i64 p.f0, .int .i64 p.f1, .int .i64 (d : Int), .int .i64 (c : Int), .int .i64 p.f4, .int .i64 p.f5, .int .i64 p.f6] 27)).cell? ⟨w.heap.size, 3, none⟩ = some (.int .i64 (c : Int)) := c_new _ _ _ _ _ _ rfl rfl
  have e4 : (w.alloc (.cells #[.int .i64 p.f0, .int .i64 p.f1, .int .i64 (d : Int), .int .i64 (c : Int), .int .i64 p.f4, .int .i64 p.f5, .int .i64 p.f6] 27)).cell? ⟨w.heap.size, 4, none⟩ = some (.int .i64 p.f4) := c_new _ _ _ _ _ _ rfl rfl
  have hgw := hB.lt
  have hg0 : w.grownBy (w.alloc (.cells #[.int .i64 p.f0, .int .i64 p.f1, .int .i64 (d : Int), .int .i64 (c : Int), .int .i64 p.f4, .int .i64 p.f5, .int .i64 p.f6] 27)) (some g) := below_grown (B := 0) ((Below.refl _ _).alloc (Nat.le_refl _) _) _
  have cg : (w.alloc (.cells #[.int .i64 p.f0, .int .i64 p.f1, .int .i64 (d : Int), .int .i64 (c : Int), .int .i64 p.f4, .int .i64 p.f5, .int .i64 p.f6] 27)).cell? ⟨g, c, none⟩ = some (.int .i64 x) := hBa.cell (ints_get hx)
  have hfne : w.heap.size ≠ g := by omega
  have HY := Lib.hid hy
  have HFN := Lib.hid hfne
  clear hx hy hB hgw hfne
  unfold pv
  rw [hc, hd]
  clear hc hd
  go_enter Tryd.func44, Tryd.ntmps44
  go_wp2
  generalize w.alloc (.cells #[.int .i64 p.f0, .int .i64 p.f1, .int .i64 (d : Int), .int .i64 (c : Int), .int .i64 p.f4, .int .i64 p.f5, .int .i64 p.f6] 27) = w1 at *
  have fc : ((c : Int) < 16) = True := eq_true (by omega)
  have fd : ((d : Int) < 16) = True := eq_true (by omega)
  have HG0 := Lib.hid hg0
  have HY1 := Lib.hid hy1
  clear hg0 hy1
  go_still_tail 11, (by kernel_rfl)
  change wpList _ _ _ _ _ w1.drew
  have cf2 : w1.drew.frozen? ⟨g, c, none⟩ = false := hBa.free c
  have cp2 : w1.drew.cell? ⟨g, c, none⟩ = some (.int .i64 x) := cg
  go_wp2
  have hB2 : Blk (w1.setCell ⟨g, c, none⟩ (.int .i64 x1)).drew g 85 (ints (bs.set c x1)) := by
    have h := (hBa.drew).set c (.int .i64 x1)
    rw [ints_set] at h
    exact h
  have HG2 : Hid (w.grownBy (w1.setCell ⟨g, c, none⟩ (.int .i64 x1)).drew (some g)) := Lib.hid (grown_trans HG0.out (grown_set w1 g c _))
  have e2 : (w1.setCell ⟨g, c, none⟩ (.int .i64 x1)).drew.cell? ⟨w.heap.size, 2, none⟩ = some (.int .i64 (d : Int)) := far_set HFN.out e2
  have e4 : (w1.setCell ⟨g, c, none⟩ (.int .i64 x1)).drew.cell? ⟨w.heap.size, 4, none⟩ = some (.int .i64 p.f4) := far_set HFN.out e4
  have cy : (w1.setCell ⟨g, c, none⟩ (.int .i64 x1)).drew.cell? ⟨g, d, none⟩ = some (.int .i64 y) := hB2.cell (ints_get (by rw [List.getElem?_set_ne (by omega)]; exact HY.out))
  clear cf2 cp2 cg hBa hx1
  generalize (w1.setCell ⟨g, c, none⟩ (.int .i64 x1)).drew = w2 at *
  have hy1 := HY1.out
  go_still_tail 11, (by kernel_rfl)
  change wpList _ _ _ _ _ w2.drew
  have cf2 : w2.drew.frozen? ⟨g, d, none⟩ = false := hB2.free d
  have cp2 : w2.drew.cell? ⟨g, d, none⟩ = some (.int .i64 y) := cy
  go_wp2
  go_end0
  refine ⟨rfl, grown_trans HG2.out (grown_set w2 g d _), ?_⟩
  have h := (hB2.drew).set d (.int .i64 y1)
  rw [ints_set] at h
  exact h
end Go.Proofs.YtooogaogbffjfaaDoor.Ext
end
section
set_option linter.unusedVariables false
set_option linter.unusedSimpArgs false
namespace Go.Proofs.YtooogaogbffjfaaDoor.Ext
set_option maxRecDepth 100000
open Go.RowKit Go.Shelf Go.Proofs.YtooogaogbffjfaaDoorW.PrintWords Go.Proofs.YtooogaogbffjfaaDoorW.PrintLast Go.Proofs.YtooogaogbffjfaaDoorW.PrintMore Go.Proofs.YtooogaogbffjfaaDoor.PK Go.Proofs.YtooogaogbffjfaaDoor.Bk
attribute [local go_sem] Oper.semAt_some
set_option maxRecDepth 100000 in
set_option maxHeartbeats 1000000 in
theorem st1_walk (M : Nat) (month : Int) (i : Int) (p : S27) (hd : 0 ≤ p.f1 ∧ p.f1 ≤ 359) (w : World) (hM : w.cell? ⟨M, 0, none⟩ = some (.int .i64 month)) :
    Calls Tryd.prog 43 #[.int .i64 i, .agg #[.int .i64 p.f0, .int .i64 p.f1, .int .i64 p.f2, .int .i64 p.f3, .int .i64 p.f4, .int .i64 p.f5, .int .i64 p.f6], .pointer (some ⟨M, 0, none⟩)] w fun e w' => e = .returned (.bool (p.f1 / 30 == month)) ∧ Below w.heap.size w w' := by
  obtain ⟨q, hq⟩ : ∃ q, p.f1 / 30 = q := ⟨_, rfl⟩
  have hw : IntKind.i64.wrap (p.f1.tdiv 30) = q := by rw [Int.tdiv_eq_ediv_of_nonneg hd.1, hq]; exact IntWalk.i64_in _ (by omega)
  rw [hq]
  have e1 : (w.alloc (.cells #[.int .i64 p.f0, .int .i64 p.f1, .int .i64 p.f2, .int .i64 p.f3, .int .i64 p.f4, .int .i64 p.f5, .int .i64 p.f6] 27)).cell? ⟨w.heap.size, 1, none⟩ = some (.int .i64 p.f1) := c_new _ _ _ _ _ _ rfl rfl
  have m1 := c_old (o := .cells #[.int .i64 p.f0, .int .i64 p.f1, .int .i64 p.f2, .int .i64 p.f3, .int .i64 p.f4, .int .i64 p.f5, .int .i64 p.f6] 27) hM
  clear hq hd hM
  go_enter Tryd.func43, Tryd.ntmps43
  go_wp2
  go_ret
  exact ⟨rfl, (Below.refl _ _).alloc (Nat.le_refl _) _⟩
set_option maxRecDepth 100000 in
set_option maxHeartbeats 1000000 in
theorem those_walk (B : Nat) (h : Nat) (lb : Array Value) (w : World) :
    Calls Tryd.prog 42 #[.pointer (some ⟨B, 0, none⟩), .func (.func h) #[] lb] w fun e w' => e = .returned (.func (.func 60) #[] #[.pointer (some ⟨w.heap.size, 0, none⟩), .pointer (some ⟨w.heap.size + 1, 0, none⟩)]) ∧ w' = (w.alloc (.cells #[.pointer (some ⟨B, 0, none⟩)] 68)).alloc (.cells #[.func (.func h) #[] lb] 88) := by
  go_enter Tryd.func42, Tryd.ntmps42
  go_wp2
  go_ret
  exact ⟨rfl, rfl⟩
def owedF (subject : Int) (bk : List Bool) (i : Nat) (p : S27) : Bool := !(p.f0 == 3) && (p.f5 == subject && !(bk.getD i false))
set_option maxRecDepth 100000 in
set_option maxHeartbeats 1000000 in
theorem ow1_walk (M L B : Nat) (acc clo : Int) (v : Value) (bk : List Bool) (subject : Int) (i : Nat) (hi : i < 200) (p : S27) (b : Bool) (hb : bk[i]? = some b) (w : World) (hM : w.cell? ⟨M, 0, none⟩ = some (.int .i64 subject)) (hL : w.cell? ⟨L, 0, none⟩ = some (.pointer (some ⟨B, 0, none⟩))) (hB : Led w B acc v clo bk) :
    Calls Tryd.prog 46 #[.int .i64 (i : Int), .agg #[.int .i64 p.f0, .int .i64 p.f1, .int .i64 p.f2, .int .i64 p.f3, .int .i64 p.f4, .int .i64 p.f5, .int .i64 p.f6], .pointer (some ⟨M, 0, none⟩), .pointer (some ⟨L, 0, none⟩)] w fun e w' => e = .returned (.bool (owedF subject bk i p)) ∧ Below w.heap.size w w' := by
  have e0 : (w.alloc (.cells #[.int .i64 p.f0, .int .i64 p.f1, .int .i64 p.f2, .int .i64 p.f3, .int .i64 p.f4, .int .i64 p.f5, .int .i64 p.f6] 27)).cell? ⟨w.heap.size, 0, none⟩ = some (.int .i64 p.f0) := c_new _ _ _ _ _ _ rfl rfl
  have e5 : (w.alloc (.cells #[.int .i64 p.f0, .int .i64 p.f1, .int .i64 p.f2, .int .i64 p.f3, .int .i64 p.f4, .int .i64 p.f5, .int .i64 p.f6] 27)).cell? ⟨w.heap.size, 5, none⟩ = some (.int .i64 p.f5) := c_new _ _ _ _ _ _ rfl rfl
  have m1 := c_old (o := .cells #[.int .i64 p.f0, .int .i64 p.f1, .int .i64 p.f2, .int .i64 p.f3, .int .i64 p.f4, .int .i64 p.f5, .int .i64 p.f6] 27) hM
  have l1 := c_old (o := .cells #[.int .i64 p.f0, .int .i64 p.f1, .int .i64 p.f2, .int .i64 p.f3, .int .i64 p.f4, .int .i64 p.f5, .int .i64 p.f6] 27) hL
  have b1 := c_old (o := .cells #[.int .i64 p.f0, .int .i64 p.f1, .int .i64 p.f2, .int .i64 p.f3, .int .i64 p.f4, .int .i64 p.f5, .int .i64 p.f6] 27) (led_back hB i b hb)
  have hg : bk.getD i false = b := by rw [List.getD_eq_getElem?_getD, hb]; rfl
  have hx5 : (i : Int) < 200 := by omega
  have hx4 : (0 : Int) ≤ (i : Int) := by omega
  unfold owedF
  rw [hg]
  have HBB := Lib.hid hB
  clear hb hM hL hB hg
  cases hk : (p.f0 != 3) with
  | false =>
    have hr : (!(p.f0 == 3) && (p.f5 == subject && !b)) = false := by rw [show (!(p.f0 == 3)) = (p.f0 != 3) from rfl, hk]; rfl
    rw [hr]
    clear hr
    go_enter Tryd.func46, Tryd.ntmps46
    go_wp2
    go_ret
    exact ⟨rfl, (Below.refl _ _).alloc (Nat.le_refl _) _⟩
  | true =>
    have hk3 : (p.f0 == 3) = false := by cases h : (p.f0 == 3) <;> simp_all [bne]
    cases hs : (p.f5 == subject) with
    | true =>
      have hr : (!(p.f0 == 3) && (true && !b)) = !b := by rw [hk3]; rfl
      rw [hr]
      clear hr hk3
      have hs5 : subject = p.f5 := (beq_iff_eq.1 hs).symm
      subst hs5
      clear hs
      go_enter Tryd.func46, Tryd.ntmps46
      go_wp2
      go_ret
      exact ⟨rfl, (Below.refl _ _).alloc (Nat.le_refl _) _⟩
    | false =>
      have hr : (!(p.f0 == 3) && (false && !b)) = false := by rw [hk3]; rfl
      rw [hr]
      clear hr hk3
      go_enter Tryd.func46, Tryd.ntmps46
      go_wp2
      go_ret
      exact ⟨rfl, (Below.refl _ _).alloc (Nat.le_refl _) _⟩
end Go.Proofs.YtooogaogbffjfaaDoor.Ext
end
