import Derived.Test.YtooogaogbffjfaaDoorMBookHeadsMatchReferenceah
import Derived.Test.YtooogaogbffjfaaDoorMBookHeadsMatchReferenceac
import Derived.BigQuiet
import Derived.StillTailTactics
/-
  Texts of this claim, one behind the other: what they prove stands above each.
-/
section
set_option linter.unusedVariables false
set_option linter.unusedSimpArgs false
namespace Go.Proofs.YtooogaogbffjfaaDoor.Ext
set_option maxRecDepth 100000
open Go.RowKit Go.Proofs.YtooogaogbffjfaaDoorW.PrintWords Go.Proofs.YtooogaogbffjfaaDoorW.PrintLast Go.Proofs.YtooogaogbffjfaaDoorW.PrintMore Go.Proofs.YtooogaogbffjfaaDoor.PK Go.Proofs.YtooogaogbffjfaaDoor.Bk
attribute [local go_sem] Oper.semAt_some
theorem wp_mid {P : Program} {c : Code} {Q : Exit → Act → World → Prop} {a : Act} {w : World} {A : Act} {M : World → Prop} (h : c.wp P (fun e a' w' => e = Exit.normal ∧ a' = A ∧ M w') a w) (hq : ∀ w', M w' → Q .normal A w') : c.wp P Q a w :=
  Code.wp_mono (fun e a' w' ⟨he, ha, hm⟩ => by subst he ha; exact hq w' hm) h
set_option maxRecDepth 100000 in
set_option maxHeartbeats 2000000 in
theorem takes_day (B : Nat) (acc clo : Int) (ad : Addr) (c n m : Nat) (hnm : n = m + 1) (bk : List Bool) (p q : S27) (w : World) (hB : Led w B acc (.slice (some ad) n c) clo bk) (hn : n < 200) (hf : formedB acc p = true) (hq : w.cell? ⟨(ad.add (m * 7)).block, (ad.add (m * 7)).off + 1, none⟩ = some (.int .i64 q.f1)) (hday : p.f1 < q.f1) :
    Calls Tryd.prog 51 #[.pointer (some ⟨B, 0, none⟩), pv p] w fun e w' => e = .returned (.bool false) ∧ Below w.heap.size w w' := by
  have c0 : w.cell? ⟨B, 0, none⟩ = some (.int .i64 acc) := hB.cell rfl
  have c1 : w.cell? ⟨B, 1, none⟩ = some (.slice (some ad) n c) := hB.cell rfl
  have e0 := box_cells w p 0 _ rfl 27
  have e1 := box_cells w p 1 _ rfl 27
  have e2 := box_cells w p 2 _ rfl 27
  have e3 := box_cells w p 3 _ rfl 27
  have e4 := box_cells w p 4 _ rfl 27
  have e5 := box_cells w p 5 _ rfl 27
  have e6 := box_cells w p 6 _ rfl 27
  have c0' := c_old (o := .cells (pcells p).toArray 27) c0
  have c1' := c_old (o := .cells (pcells p).toArray 27) c1
  have cq' := c_old (o := .cells (pcells p).toArray 27) hq
  have hd : decide ((200 : Int) ≤ (n : Int)) = false := decide_eq_false (by omega)
  have hp : decide ((0 : Int) < (n : Int)) = true := decide_eq_true (by omega)
  have hp2 : decide (0 < n) = true := decide_eq_true (by omega)
  have hi0 : (0 : Int) ≤ (m : Int) := by omega
  have hi1 : (m : Int) < (n : Int) := by omega
  have hw : IntKind.i64.wrap ((n : Int) - 1) = (m : Int) := by rw [IntWalk.i64_in _ (by omega)]; omega
  have hlt : decide (p.f1 < q.f1) = true := decide_eq_true hday
  unfold pv
  unfold pcells at c0' c1' cq' e0 e1 e2 e3 e4 e5 e6
  clear c0 c1 hq hnm
  go_enter Tryd.func51, Tryd.ntmps51
  go_wp2
  generalize hw1 : w.alloc (.cells [Value.int .i64 p.f0, .int .i64 p.f1, .int .i64 p.f2, .int .i64 p.f3, .int .i64 p.f4, .int .i64 p.f5, .int .i64 p.f6].toArray 27) = w1 at *
  have hbw : Below w.heap.size w w1.drew := below_drew1 (by rw [← hw1]; exact (Below.refl _ _).alloc (Nat.le_refl _) _)
  have hS : w1.drew.cell? ⟨B, 0, none⟩ = some (.int .i64 acc) ∧ w1.drew.cell? ⟨B, 1, none⟩ = some (.slice (some ad) n c) ∧ w1.drew.cell? ⟨(ad.add (m * 7)).block, (ad.add (m * 7)).off + 1, none⟩ = some (.int .i64 q.f1) ∧ w1.drew.cell? ⟨w.heap.size, 0, none⟩ = some (.int .i64 p.f0) ∧ w1.drew.cell? ⟨w.heap.size, 1, none⟩ = some (.int .i64 p.f1) ∧ w1.drew.cell? ⟨w.heap.size, 2, none⟩ = some (.int .i64 p.f2) ∧ w1.drew.cell? ⟨w.heap.size, 3, none⟩ = some (.int .i64 p.f3) ∧ w1.drew.cell? ⟨w.heap.size, 4, none⟩ = some (.int .i64 p.f4) ∧ w1.drew.cell? ⟨w.heap.size, 5, none⟩ = some (.int .i64 p.f5) ∧ w1.drew.cell? ⟨w.heap.size, 6, none⟩ = some (.int .i64 p.f6) := ⟨c0', c1', cq', e0, e1, e2, e3, e4, e5, e6⟩
  apply wp_mid (M := fun w' => Below w.heap.size w w' ∧ (w'.cell? ⟨B, 0, none⟩ = some (.int .i64 acc) ∧ w'.cell? ⟨B, 1, none⟩ = some (.slice (some ad) n c) ∧ w'.cell? ⟨(ad.add (m * 7)).block, (ad.add (m * 7)).off + 1, none⟩ = some (.int .i64 q.f1) ∧ w'.cell? ⟨w.heap.size, 0, none⟩ = some (.int .i64 p.f0) ∧ w'.cell? ⟨w.heap.size, 1, none⟩ = some (.int .i64 p.f1) ∧ w'.cell? ⟨w.heap.size, 2, none⟩ = some (.int .i64 p.f2) ∧ w'.cell? ⟨w.heap.size, 3, none⟩ = some (.int .i64 p.f3) ∧ w'.cell? ⟨w.heap.size, 4, none⟩ = some (.int .i64 p.f4) ∧ w'.cell? ⟨w.heap.size, 5, none⟩ = some (.int .i64 p.f5) ∧ w'.cell? ⟨w.heap.size, 6, none⟩ = some (.int .i64 p.f6)))
  · go_region_held3 (fun w' => w'.cell? ⟨B, 0, none⟩ = some (.int .i64 acc) ∧ w'.cell? ⟨B, 1, none⟩ = some (.slice (some ad) n c) ∧ w'.cell? ⟨(ad.add (m * 7)).block, (ad.add (m * 7)).off + 1, none⟩ = some (.int .i64 q.f1) ∧ w'.cell? ⟨w.heap.size, 0, none⟩ = some (.int .i64 p.f0) ∧ w'.cell? ⟨w.heap.size, 1, none⟩ = some (.int .i64 p.f1) ∧ w'.cell? ⟨w.heap.size, 2, none⟩ = some (.int .i64 p.f2) ∧ w'.cell? ⟨w.heap.size, 3, none⟩ = some (.int .i64 p.f3) ∧ w'.cell? ⟨w.heap.size, 4, none⟩ = some (.int .i64 p.f4) ∧ w'.cell? ⟨w.heap.size, 5, none⟩ = some (.int .i64 p.f5) ∧ w'.cell? ⟨w.heap.size, 6, none⟩ = some (.int .i64 p.f6)) (first | (with_reducible exact hkd) | (with_reducible exact hS) | fail) (first | (go_at_call 63; (with_reducible refine (formed_walk' acc p true hf _).mono ?_); rintro e w2 ⟨rfl, hb1⟩; have hkd : w2.cell? ⟨B, 0, none⟩ = some (.int .i64 acc) ∧ w2.cell? ⟨B, 1, none⟩ = some (.slice (some ad) n c) ∧ w2.cell? ⟨(ad.add (m * 7)).block, (ad.add (m * 7)).off + 1, none⟩ = some (.int .i64 q.f1) ∧ w2.cell? ⟨w.heap.size, 0, none⟩ = some (.int .i64 p.f0) ∧ w2.cell? ⟨w.heap.size, 1, none⟩ = some (.int .i64 p.f1) ∧ w2.cell? ⟨w.heap.size, 2, none⟩ = some (.int .i64 p.f2) ∧ w2.cell? ⟨w.heap.size, 3, none⟩ = some (.int .i64 p.f3) ∧ w2.cell? ⟨w.heap.size, 4, none⟩ = some (.int .i64 p.f4) ∧ w2.cell? ⟨w.heap.size, 5, none⟩ = some (.int .i64 p.f5) ∧ w2.cell? ⟨w.heap.size, 6, none⟩ = some (.int .i64 p.f6) := ⟨keepB hb1 hS.1, keepB hb1 hS.2.1, keepB hb1 hS.2.2.1, keepB hb1 hS.2.2.2.1, keepB hb1 hS.2.2.2.2.1, keepB hb1 hS.2.2.2.2.2.1, keepB hb1 hS.2.2.2.2.2.2.1, keepB hb1 hS.2.2.2.2.2.2.2.1, keepB hb1 hS.2.2.2.2.2.2.2.2.1, keepB hb1 hS.2.2.2.2.2.2.2.2.2⟩) | fail)
    all_goals exact ⟨rfl, rfl, Below.trans hbw (hb1.mono hbw.size), hkd⟩
  rintro w2 ⟨hbx, hHeld⟩
  clear hS
  go_wp2
  go_ret
  exact ⟨rfl, hbx⟩
theorem ne_after {W : World} {B : Nat} {v v1 : Value} (h : some B ≠ v.ownBlock) (hat : v1.ownBlock = v.ownBlock ∨ ∃ b, v1.ownBlock = some b ∧ W.heap.size ≤ b) (hlt : B < W.heap.size) : some B ≠ v1.ownBlock := by
  rcases hat with e | ⟨b, e, hb⟩
  · rw [e]; exact h
  · rw [e]; intro e2; have := Option.some.inj e2; omega
theorem keepG {W w1 : World} {r : Option Nat} {a : Addr} {v : Value} (hg : W.grownBy w1 r) (hne : some a.block ≠ r) (h : W.cell? a = some v) : w1.cell? a = some v := by
  have := hg.block a.block (World.block_lt_of_cell? _ _ h) hne
  rw [← h]; simp [World.cell?, this]
set_option maxRecDepth 100000 in
set_option maxHeartbeats 4000000 in
theorem takes_add (ws : World) (B : Nat) (acc clo : Int) (ad : Addr) (c n m : Nat) (hnm : n = m + 1) (bk : List Bool) (ps : List S27) (p q : S27) (w : World) (hbel : Below ws.heap.size ws w) (hBb : ws.heap.size ≤ B) (hB : Led w B acc (.slice (some ad) n c) clo bk) (hR : Kd.R k27 27 w ws.heap.size (fun _ => True) (.slice (some ad) n c) ps) (hps : ps.length ≤ 1000) (hneB : some B ≠ (Value.slice (some ad) n c).ownBlock) (hn : n < 200) (hf : formedB acc p = true) (hq : w.cell? ⟨(ad.add (m * 7)).block, (ad.add (m * 7)).off + 1, none⟩ = some (.int .i64 q.f1)) (hday : ¬ p.f1 < q.f1) (hk : p.f0 ≠ 3) :
    Calls Tryd.prog 51 #[.pointer (some ⟨B, 0, none⟩), pv p] w fun e w' => e = .returned (.bool true) ∧ Below ws.heap.size ws w' ∧ ∃ v', Led w' B acc v' clo bk ∧ Kd.R k27 27 w' ws.heap.size (fun _ => True) v' (ps ++ [p]) ∧ some B ≠ v'.ownBlock ∧ (∀ (k : Nat) (t : TypeId) (C : List Value), Blk w k t C → k ≠ B → some k ≠ (Value.slice (some ad) n c).ownBlock → Blk w' k t C) := by
  have c0 : w.cell? ⟨B, 0, none⟩ = some (.int .i64 acc) := hB.cell rfl
  have c1 : w.cell? ⟨B, 1, none⟩ = some (.slice (some ad) n c) := hB.cell rfl
  have e0 := box_cells w p 0 _ rfl 27
  have e1 := box_cells w p 1 _ rfl 27
  have e2 := box_cells w p 2 _ rfl 27
  have e3 := box_cells w p 3 _ rfl 27
  have e4 := box_cells w p 4 _ rfl 27
  have e5 := box_cells w p 5 _ rfl 27
  have e6 := box_cells w p 6 _ rfl 27
  have c0' := c_old (o := .cells (pcells p).toArray 27) c0
  have c1' := c_old (o := .cells (pcells p).toArray 27) c1
  have cq' := c_old (o := .cells (pcells p).toArray 27) hq
  have hd : decide ((200 : Int) ≤ (n : Int)) = false := decide_eq_false (by omega)
  have hp : decide ((0 : Int) < (n : Int)) = true := decide_eq_true (by omega)
  have hp2 : decide (0 < n) = true := decide_eq_true (by omega)
  have hi0 : (0 : Int) ≤ (m : Int) := by omega
  have hi1 : (m : Int) < (n : Int) := by omega
  have hw : IntKind.i64.wrap ((n : Int) - 1) = (m : Int) := by rw [IntWalk.i64_in _ (by omega)]; omega
  have hlt : decide (p.f1 < q.f1) = false := decide_eq_false hday
  have hk3 : (p.f0 == 3) = false := beq_eq_false_iff_ne.2 hk
  have HNX := Lib.hid (show some w.heap.size ≠ (Value.slice (some ad) n c).ownBlock from fun e => Nat.lt_irrefl _ (Kd.R_lt hR _ e.symm))
  have HNB := Lib.hid hneB
  have HPS := Lib.hid hps
  unfold pv
  unfold pcells at c0' c1' cq' e0 e1 e2 e3 e4 e5 e6
  clear c0 c1 hq hnm hneB hps hk hday
  go_enter Tryd.func51, Tryd.ntmps51
  go_wp2
  generalize hw1 : w.alloc (.cells [Value.int .i64 p.f0, .int .i64 p.f1, .int .i64 p.f2, .int .i64 p.f3, .int .i64 p.f4, .int .i64 p.f5, .int .i64 p.f6].toArray 27) = w1 at *
  have hbw : Below w.heap.size w w1.drew := below_drew1 (by rw [← hw1]; exact (Below.refl _ _).alloc (Nat.le_refl _) _)
  have hS : w1.drew.cell? ⟨B, 0, none⟩ = some (.int .i64 acc) ∧ w1.drew.cell? ⟨B, 1, none⟩ = some (.slice (some ad) n c) ∧ w1.drew.cell? ⟨(ad.add (m * 7)).block, (ad.add (m * 7)).off + 1, none⟩ = some (.int .i64 q.f1) ∧ w1.drew.cell? ⟨w.heap.size, 0, none⟩ = some (.int .i64 p.f0) ∧ w1.drew.cell? ⟨w.heap.size, 1, none⟩ = some (.int .i64 p.f1) ∧ w1.drew.cell? ⟨w.heap.size, 2, none⟩ = some (.int .i64 p.f2) ∧ w1.drew.cell? ⟨w.heap.size, 3, none⟩ = some (.int .i64 p.f3) ∧ w1.drew.cell? ⟨w.heap.size, 4, none⟩ = some (.int .i64 p.f4) ∧ w1.drew.cell? ⟨w.heap.size, 5, none⟩ = some (.int .i64 p.f5) ∧ w1.drew.cell? ⟨w.heap.size, 6, none⟩ = some (.int .i64 p.f6) := ⟨c0', c1', cq', e0, e1, e2, e3, e4, e5, e6⟩
  apply wp_mid (M := fun w' => Below w.heap.size w w' ∧ (w'.cell? ⟨B, 0, none⟩ = some (.int .i64 acc) ∧ w'.cell? ⟨B, 1, none⟩ = some (.slice (some ad) n c) ∧ w'.cell? ⟨(ad.add (m * 7)).block, (ad.add (m * 7)).off + 1, none⟩ = some (.int .i64 q.f1) ∧ w'.cell? ⟨w.heap.size, 0, none⟩ = some (.int .i64 p.f0) ∧ w'.cell? ⟨w.heap.size, 1, none⟩ = some (.int .i64 p.f1) ∧ w'.cell? ⟨w.heap.size, 2, none⟩ = some (.int .i64 p.f2) ∧ w'.cell? ⟨w.heap.size, 3, none⟩ = some (.int .i64 p.f3) ∧ w'.cell? ⟨w.heap.size, 4, none⟩ = some (.int .i64 p.f4) ∧ w'.cell? ⟨w.heap.size, 5, none⟩ = some (.int .i64 p.f5) ∧ w'.cell? ⟨w.heap.size, 6, none⟩ = some (.int .i64 p.f6)))
  · go_region_held3 (fun w' => w'.cell? ⟨B, 0, none⟩ = some (.int .i64 acc) ∧ w'.cell? ⟨B, 1, none⟩ = some (.slice (some ad) n c) ∧ w'.cell? ⟨(ad.add (m * 7)).block, (ad.add (m * 7)).off + 1, none⟩ = some (.int .i64 q.f1) ∧ w'.cell? ⟨w.heap.size, 0, none⟩ = some (.int .i64 p.f0) ∧ w'.cell? ⟨w.heap.size, 1, none⟩ = some (.int .i64 p.f1) ∧ w'.cell? ⟨w.heap.size, 2, none⟩ = some (.int .i64 p.f2) ∧ w'.cell? ⟨w.heap.size, 3, none⟩ = some (.int .i64 p.f3) ∧ w'.cell? ⟨w.heap.size, 4, none⟩ = some (.int .i64 p.f4) ∧ w'.cell? ⟨w.heap.size, 5, none⟩ = some (.int .i64 p.f5) ∧ w'.cell? ⟨w.heap.size, 6, none⟩ = some (.int .i64 p.f6)) (first | (with_reducible exact hkd) | (with_reducible exact hS) | fail) (first | (go_at_call 63; (with_reducible refine (formed_walk' acc p true hf _).mono ?_); rintro e w2 ⟨rfl, hb1⟩; have hkd : w2.cell? ⟨B, 0, none⟩ = some (.int .i64 acc) ∧ w2.cell? ⟨B, 1, none⟩ = some (.slice (some ad) n c) ∧ w2.cell? ⟨(ad.add (m * 7)).block, (ad.add (m * 7)).off + 1, none⟩ = some (.int .i64 q.f1) ∧ w2.cell? ⟨w.heap.size, 0, none⟩ = some (.int .i64 p.f0) ∧ w2.cell? ⟨w.heap.size, 1, none⟩ = some (.int .i64 p.f1) ∧ w2.cell? ⟨w.heap.size, 2, none⟩ = some (.int .i64 p.f2) ∧ w2.cell? ⟨w.heap.size, 3, none⟩ = some (.int .i64 p.f3) ∧ w2.cell? ⟨w.heap.size, 4, none⟩ = some (.int .i64 p.f4) ∧ w2.cell? ⟨w.heap.size, 5, none⟩ = some (.int .i64 p.f5) ∧ w2.cell? ⟨w.heap.size, 6, none⟩ = some (.int .i64 p.f6) := ⟨keepB hb1 hS.1, keepB hb1 hS.2.1, keepB hb1 hS.2.2.1, keepB hb1 hS.2.2.2.1, keepB hb1 hS.2.2.2.2.1, keepB hb1 hS.2.2.2.2.2.1, keepB hb1 hS.2.2.2.2.2.2.1, keepB hb1 hS.2.2.2.2.2.2.2.1, keepB hb1 hS.2.2.2.2.2.2.2.2.1, keepB hb1 hS.2.2.2.2.2.2.2.2.2⟩) | fail)
    all_goals exact ⟨rfl, rfl, Below.trans hbw (hb1.mono hbw.size), hkd⟩
  rintro w2 ⟨hbx, hHeld⟩
  clear hS
  have hbw2 : Below w.heap.size w w2.drew := below_drew1 (hbx)
  have HB8 : Below ws.heap.size ws w2.drew := Below.trans hbel (hbw2.mono hbel.size)
  have HR8 := Kd.R_below hR hbw2
  have HL8 := hB.belowS hbw2
  have g0 : w2.drew.cell? ⟨w.heap.size, 0, none⟩ = some (.int .i64 p.f0) := hHeld.2.2.2.1
  have g1 : w2.drew.cell? ⟨w.heap.size, 1, none⟩ = some (.int .i64 p.f1) := hHeld.2.2.2.2.1
  have g2 : w2.drew.cell? ⟨w.heap.size, 2, none⟩ = some (.int .i64 p.f2) := hHeld.2.2.2.2.2.1
  have g3 : w2.drew.cell? ⟨w.heap.size, 3, none⟩ = some (.int .i64 p.f3) := hHeld.2.2.2.2.2.2.1
  have g4 : w2.drew.cell? ⟨w.heap.size, 4, none⟩ = some (.int .i64 p.f4) := hHeld.2.2.2.2.2.2.2.1
  have g5 : w2.drew.cell? ⟨w.heap.size, 5, none⟩ = some (.int .i64 p.f5) := hHeld.2.2.2.2.2.2.2.2.1
  have g6 : w2.drew.cell? ⟨w.heap.size, 6, none⟩ = some (.int .i64 p.f6) := hHeld.2.2.2.2.2.2.2.2.2
  have gk : w2.cell? ⟨w.heap.size, 0, none⟩ = some (.int .i64 p.f0) := g0
  clear hHeld c0' c1' cq' e0 e1 e2 e3 e4 e5 e6 hw1
  go_wp2
  refine start_ (n := 13) (S := fun w' => w'.cell? ⟨B, 1, none⟩ = some (.slice (some ad) n c) ∧ w'.cell? ⟨w.heap.size, 0, none⟩ = some (.int .i64 p.f0) ∧ w'.cell? ⟨w.heap.size, 1, none⟩ = some (.int .i64 p.f1) ∧ w'.cell? ⟨w.heap.size, 2, none⟩ = some (.int .i64 p.f2) ∧ w'.cell? ⟨w.heap.size, 3, none⟩ = some (.int .i64 p.f3) ∧ w'.cell? ⟨w.heap.size, 4, none⟩ = some (.int .i64 p.f4) ∧ w'.cell? ⟨w.heap.size, 5, none⟩ = some (.int .i64 p.f5) ∧ w'.cell? ⟨w.heap.size, 6, none⟩ = some (.int .i64 p.f6)) (ds := [12]) (bb 13 0) (by kernel_rfl) rfl rfl ⟨HL8.cell rfl, g0, g1, g2, g3, g4, g5, g6⟩ (fun hHeld => ?_)
  generalize w2.drew = wd2 at *
  refine pure_ (i := 0) (N := some 79) (v := ?_) (a' := ?_) (bb 13 1) rfl rfl (by kernel_rfl) (fun _ _ _ h => h) (Or.inl ⟨by rfl, ?_⟩) ?_ ?_
  rotate_left; (intro w'; go_simp; with_reducible rfl); rotate_left; (simp only [Act.put, z1, z2, z3, i64_w, i32_w]; rfl)
  refine pure_ (i := 1) (N := some 80) (v := ?_) (a' := ?_) (bb 13 3) rfl rfl (by kernel_rfl) (fun _ _ _ h => h) (Or.inl ⟨by rfl, ?_⟩) ?_ ?_
  rotate_left; (intro w'; go_simp; with_reducible rfl); rotate_left; (simp only [Act.put, z1, z2, z3, i64_w, i32_w]; rfl)
  refine pure_ (i := 2) (N := some 81) (v := ?_) (a' := ?_) (bb 13 7) rfl rfl (by kernel_rfl) (fun _ _ _ h => h) (Or.inl ⟨by rfl, ?_⟩) ?_ ?_
  rotate_left; (intro w'; go_simp; with_reducible rfl); rotate_left; (simp only [Act.put, z1, z2, z3, i64_w, i32_w]; rfl)
  refine pure_ (i := 3) (N := some 82) (v := ?_) (a' := ?_) (bb 13 15) rfl rfl (by kernel_rfl) (fun _ _ _ h => h) (Or.inl ⟨by rfl, ?_⟩) ?_ ?_
  rotate_left; (intro w'; go_simp; with_reducible rfl); rotate_left; (simp only [Act.put, z1, z2, z3, i64_w, i32_w]; rfl)
  refine pure_ (i := 4) (N := some 83) (v := ?_) (a' := ?_) (bb 13 31) rfl rfl (by kernel_rfl) (fun _ _ _ h => h) (Or.inl ⟨by rfl, ?_⟩) ?_ ?_
  rotate_left; (intro w'; go_simp; with_reducible rfl); rotate_left; (simp only [Act.put, z1, z2, z3, i64_w, i32_w]; rfl)
  refine take_ (i := 5) (N := some 84) (v := ?_) (a' := ?_) (bb 13 63) rfl rfl (by kernel_rfl) (fun _ _ _ h => h) (Or.inl ⟨by rfl, ?_⟩) hHeld ?_ ?_
  rotate_left; (rintro w' ⟨s0, s1, s2, s3, s4, s5, s6, s7⟩; go_simp; with_reducible rfl); rotate_left; (simp only [Act.put, z1, z2, z3, i64_w, i32_w]; rfl)
  refine take_ (i := 6) (N := some 85) (v := ?_) (a' := ?_) (bb 13 127) rfl rfl (by kernel_rfl) (fun _ _ _ h => h) (Or.inl ⟨by rfl, ?_⟩) hHeld ?_ ?_
  rotate_left; (rintro w' ⟨s0, s1, s2, s3, s4, s5, s6, s7⟩; go_simp; with_reducible rfl); rotate_left; (simp only [Act.put, z1, z2, z3, i64_w, i32_w]; rfl)
  refine one_ (i := 7) (N := some 86) (bb 13 255) rfl rfl (by kernel_rfl) (by decide) (fun K hK => ?_)
  refine Kd.R_lit_step k27 (w0 := ws) ws.heap.size 27 (by rfl) (N := 86) rfl (xs := [p]) (inner := pcells p) (ok := fun _ => True) (okp := fun _ => True) ?hr ?hp (fun _ hk => hk) trivial HB8 HB8.size (by simp) ?_
  (case hr => unfold pcells; first | (go_simp; done) | (go_simp; rfl))
  (case hp => exact (Reps.c7 (k27_mkM _ _ _ p) (Reps.none _ _)))
  intro v3 w3 ho3 hb3 hg3 hn3
  obtain ⟨a3, k3, rfl⟩ := Kd.R_slice1 ho3 (by simp)
  have HR3 := Kd.R_grown HR8 hg3 (fun k _ => by simp)
  have HL3 := Blk.grown HL8 hg3 (by simp)
  refine hK.out _ _ ⟨keepG hg3 (by simp) (hHeld.1), keepG hg3 (by simp) (hHeld.2.1), keepG hg3 (by simp) (hHeld.2.2.1), keepG hg3 (by simp) (hHeld.2.2.2.1), keepG hg3 (by simp) (hHeld.2.2.2.2.1), keepG hg3 (by simp) (hHeld.2.2.2.2.2.1), keepG hg3 (by simp) (hHeld.2.2.2.2.2.2.1), keepG hg3 (by simp) (hHeld.2.2.2.2.2.2.2)⟩ (fun hHeld => ?_)
  clear hK K
  refine norm_ (a' := ?_) ?_ ?_
  rotate_left
  · show Act.put _ (some 86) _ = _
    simp only [Act.put, z1, z2, z3, i64_w, i32_w]
    rfl
  refine one_ (i := 8) (N := some 87) (bb 13 511) rfl rfl (by kernel_rfl) (by decide) (fun K hK => ?_)
  refine Kd.R_append_rows_step k27 (w0 := ws) ws.heap.size (by rfl) (.tmp 84) (.tmp 86) 22 27 (.agg #[(.int .i64 0), (.int .i64 0), (.int .i64 0), (.int .i64 0), (.int .i64 0), (.int .i64 0), (.int .i64 0)]) 56 rfl Tryd.underlying22 info27 rfl (by decide) (by omega) (.slice (some ad) n c) ps [p] _ _ _ (fun _ => True) (fun _ => False) rfl rfl ?aO ?aR (fun _ _ h => h) (fun _ h => h.elim) ?aF ?aB ?aS ?aL ?_
  (case aR => exact (Kd.R_reads' ho3).2.2)
  (case aB => exact hb3)
  (case aF => exact fun _ _ => trivial)
  (case aO => exact HR3)
  (case aS => exact hb3.size)
  (case aL => have h_ := HPS.out; simp only [List.length_singleton]; omega)
  intro v4 w4 ho4 hb4 hg4 hat4
  obtain ⟨a4, k4, ev4⟩ := Kd.R_slice ho4
  obtain ⟨n4, en4⟩ : ∃ q_ : Nat, (ps ++ [p]).length = q_ := ⟨_, rfl⟩
  rw [en4] at ev4
  clear en4
  subst ev4
  have hn4 := ne_after HNB.out hat4 HL3.lt
  have HL4 := Blk.grown HL3 hg4 HNB.out
  have hfz : w4.frozen? ⟨B, 1, none⟩ = false := HL4.free 1
  have hc4 : w4.cell? ⟨B, 1, none⟩ = some (.slice (some ad) n c) := HL4.cell rfl
  refine hK.out _ _ ⟨keepG hg4 HNB.out (hHeld.1), keepG hg4 HNX.out (hHeld.2.1), keepG hg4 HNX.out (hHeld.2.2.1), keepG hg4 HNX.out (hHeld.2.2.2.1), keepG hg4 HNX.out (hHeld.2.2.2.2.1), keepG hg4 HNX.out (hHeld.2.2.2.2.2.1), keepG hg4 HNX.out (hHeld.2.2.2.2.2.2.1), keepG hg4 HNX.out (hHeld.2.2.2.2.2.2.2)⟩ (fun hHeld => ?_)
  clear hK K
  refine norm_ (a' := ?_) ?_ ?_
  rotate_left
  · show Act.put _ (some 87) _ = _
    simp only [Act.put, z1, z2, z3, i64_w, i32_w]
    rfl
  refine pure_ (i := 9) (N := some 88) (v := ?_) (a' := ?_) (bb 13 1023) rfl rfl (by kernel_rfl) (fun _ _ _ h => h) (Or.inl ⟨by rfl, ?_⟩) ?_ ?_
  rotate_left; (intro w'; go_simp; with_reducible rfl); rotate_left; (simp only [Act.put, z1, z2, z3, i64_w, i32_w]; rfl)
  refine pure_ (i := 10) (N := some 89) (v := ?_) (a' := ?_) (bb 13 2047) rfl rfl (by kernel_rfl) (fun _ _ _ h => h) (Or.inl ⟨by rfl, ?_⟩) ?_ ?_
  rotate_left; (intro w'; go_simp; with_reducible rfl); rotate_left; (simp only [Act.put, z1, z2, z3, i64_w, i32_w]; rfl)
  refine pure_ (i := 11) (N := some 90) (v := ?_) (a' := ?_) (bb 13 4095) rfl rfl (by kernel_rfl) (fun _ _ _ h => h) (Or.inl ⟨by rfl, ?_⟩) ?_ ?_
  rotate_left; (intro w'; go_simp; with_reducible rfl); rotate_left; (simp only [Act.put, z1, z2, z3, i64_w, i32_w]; rfl)
  refine last_ (i := 12) (N := none) (bb 13 8191) rfl rfl (by kernel_rfl) (by decide) (fun K hK => ?_)
  refine skip_ (w1 := ?_) (by rfl) rfl ?_ ?_
  rotate_left
  · go_simp
    rfl
  refine hK.out _ _ ?_
  clear hK K
  refine done_ (by kernel_rfl) ?_
  go_wp2
  go_ret
  exact ⟨rfl, hb4.setCell (p := ⟨B, 1, none⟩) hBb _, _, HL4.set 1 _, Kd.R_set ho4 HL4.heap (by decide) 1 _, hn4, fun k t C hk hkB hkv => (((hk.belowS hbw2).grown hg3 (by simp)).grown hg4 hkv).set_other ⟨B, 1, none⟩ hkB _⟩
set_option maxRecDepth 100000 in
set_option maxHeartbeats 4000000 in
theorem takes_late (ws : World) (B : Nat) (acc clo : Int) (ad : Addr) (c n m o : Nat) (hnm : n = m + 1) (bk : List Bool) (ps : List S27) (p q : S27) (w : World) (hbel : Below ws.heap.size ws w) (hBb : ws.heap.size ≤ B) (hB : Led w B acc (.slice (some ad) n c) clo bk) (hR : Kd.R k27 27 w ws.heap.size (fun _ => True) (.slice (some ad) n c) ps) (hps : ps.length ≤ 1000) (hneB : some B ≠ (Value.slice (some ad) n c).ownBlock) (hn : n < 200) (hf : formedB acc p = true) (hq : w.cell? ⟨(ad.add (m * 7)).block, (ad.add (m * 7)).off + 1, none⟩ = some (.int .i64 q.f1)) (hday : ¬ p.f1 < q.f1) (hk : p.f0 = 3) (ho : p.f6 = (o : Int)) (hon : n ≤ o) :
    Calls Tryd.prog 51 #[.pointer (some ⟨B, 0, none⟩), pv p] w fun e w' => e = .returned (.bool false) ∧ Below w.heap.size w w' := by
  have c0 : w.cell? ⟨B, 0, none⟩ = some (.int .i64 acc) := hB.cell rfl
  have c1 : w.cell? ⟨B, 1, none⟩ = some (.slice (some ad) n c) := hB.cell rfl
  have e0 := box_cells w p 0 _ rfl 27
  have e1 := box_cells w p 1 _ rfl 27
  have e2 := box_cells w p 2 _ rfl 27
  have e3 := box_cells w p 3 _ rfl 27
  have e4 := box_cells w p 4 _ rfl 27
  have e5 := box_cells w p 5 _ rfl 27
  have e6 := box_cells w p 6 _ rfl 27
  have c0' := c_old (o := .cells (pcells p).toArray 27) c0
  have c1' := c_old (o := .cells (pcells p).toArray 27) c1
  have cq' := c_old (o := .cells (pcells p).toArray 27) hq
  have hd : decide ((200 : Int) ≤ (n : Int)) = false := decide_eq_false (by omega)
  have hp : decide ((0 : Int) < (n : Int)) = true := decide_eq_true (by omega)
  have hp2 : decide (0 < n) = true := decide_eq_true (by omega)
  have hi0 : (0 : Int) ≤ (m : Int) := by omega
  have hi1 : (m : Int) < (n : Int) := by omega
  have hw : IntKind.i64.wrap ((n : Int) - 1) = (m : Int) := by rw [IntWalk.i64_in _ (by omega)]; omega
  have hlt : decide (p.f1 < q.f1) = false := decide_eq_false hday
  have hk3 : (p.f0 == 3) = true := beq_iff_eq.2 hk
  have HNX := Lib.hid (show some w.heap.size ≠ (Value.slice (some ad) n c).ownBlock from fun e => Nat.lt_irrefl _ (Kd.R_lt hR _ e.symm))
  have HNB := Lib.hid hneB
  have HPS := Lib.hid hps
  have HO := Lib.hid ho
  have hx1 : decide ((n : Int) ≤ (o : Int)) = true := decide_eq_true (by omega)
  have hx2 : decide (n ≤ o) = true := decide_eq_true hon
  unfold pv
  unfold pcells at c0' c1' cq' e0 e1 e2 e3 e4 e5 e6
  clear c0 c1 hq hnm hneB hps hk hday ho
  go_enter Tryd.func51, Tryd.ntmps51
  go_wp2
  generalize hw1 : w.alloc (.cells [Value.int .i64 p.f0, .int .i64 p.f1, .int .i64 p.f2, .int .i64 p.f3, .int .i64 p.f4, .int .i64 p.f5, .int .i64 p.f6].toArray 27) = w1 at *
  have hbw : Below w.heap.size w w1.drew := below_drew1 (by rw [← hw1]; exact (Below.refl _ _).alloc (Nat.le_refl _) _)
  have hS : w1.drew.cell? ⟨B, 0, none⟩ = some (.int .i64 acc) ∧ w1.drew.cell? ⟨B, 1, none⟩ = some (.slice (some ad) n c) ∧ w1.drew.cell? ⟨(ad.add (m * 7)).block, (ad.add (m * 7)).off + 1, none⟩ = some (.int .i64 q.f1) ∧ w1.drew.cell? ⟨w.heap.size, 0, none⟩ = some (.int .i64 p.f0) ∧ w1.drew.cell? ⟨w.heap.size, 1, none⟩ = some (.int .i64 p.f1) ∧ w1.drew.cell? ⟨w.heap.size, 2, none⟩ = some (.int .i64 p.f2) ∧ w1.drew.cell? ⟨w.heap.size, 3, none⟩ = some (.int .i64 p.f3) ∧ w1.drew.cell? ⟨w.heap.size, 4, none⟩ = some (.int .i64 p.f4) ∧ w1.drew.cell? ⟨w.heap.size, 5, none⟩ = some (.int .i64 p.f5) ∧ w1.drew.cell? ⟨w.heap.size, 6, none⟩ = some (.int .i64 p.f6) := ⟨c0', c1', cq', e0, e1, e2, e3, e4, e5, e6⟩
  apply wp_mid (M := fun w' => Below w.heap.size w w' ∧ (w'.cell? ⟨B, 0, none⟩ = some (.int .i64 acc) ∧ w'.cell? ⟨B, 1, none⟩ = some (.slice (some ad) n c) ∧ w'.cell? ⟨(ad.add (m * 7)).block, (ad.add (m * 7)).off + 1, none⟩ = some (.int .i64 q.f1) ∧ w'.cell? ⟨w.heap.size, 0, none⟩ = some (.int .i64 p.f0) ∧ w'.cell? ⟨w.heap.size, 1, none⟩ = some (.int .i64 p.f1) ∧ w'.cell? ⟨w.heap.size, 2, none⟩ = some (.int .i64 p.f2) ∧ w'.cell? ⟨w.heap.size, 3, none⟩ = some (.int .i64 p.f3) ∧ w'.cell? ⟨w.heap.size, 4, none⟩ = some (.int .i64 p.f4) ∧ w'.cell? ⟨w.heap.size, 5, none⟩ = some (.int .i64 p.f5) ∧ w'.cell? ⟨w.heap.size, 6, none⟩ = some (.int .i64 p.f6)))
  · go_region_held3 (fun w' => w'.cell? ⟨B, 0, none⟩ = some (.int .i64 acc) ∧ w'.cell? ⟨B, 1, none⟩ = some (.slice (some ad) n c) ∧ w'.cell? ⟨(ad.add (m * 7)).block, (ad.add (m * 7)).off + 1, none⟩ = some (.int .i64 q.f1) ∧ w'.cell? ⟨w.heap.size, 0, none⟩ = some (.int .i64 p.f0) ∧ w'.cell? ⟨w.heap.size, 1, none⟩ = some (.int .i64 p.f1) ∧ w'.cell? ⟨w.heap.size, 2, none⟩ = some (.int .i64 p.f2) ∧ w'.cell? ⟨w.heap.size, 3, none⟩ = some (.int .i64 p.f3) ∧ w'.cell? ⟨w.heap.size, 4, none⟩ = some (.int .i64 p.f4) ∧ w'.cell? ⟨w.heap.size, 5, none⟩ = some (.int .i64 p.f5) ∧ w'.cell? ⟨w.heap.size, 6, none⟩ = some (.int .i64 p.f6)) (first | (with_reducible exact hkd) | (with_reducible exact hS) | fail) (first | (go_at_call 63; (with_reducible refine (formed_walk' acc p true hf _).mono ?_); rintro e w2 ⟨rfl, hb1⟩; have hkd : w2.cell? ⟨B, 0, none⟩ = some (.int .i64 acc) ∧ w2.cell? ⟨B, 1, none⟩ = some (.slice (some ad) n c) ∧ w2.cell? ⟨(ad.add (m * 7)).block, (ad.add (m * 7)).off + 1, none⟩ = some (.int .i64 q.f1) ∧ w2.cell? ⟨w.heap.size, 0, none⟩ = some (.int .i64 p.f0) ∧ w2.cell? ⟨w.heap.size, 1, none⟩ = some (.int .i64 p.f1) ∧ w2.cell? ⟨w.heap.size, 2, none⟩ = some (.int .i64 p.f2) ∧ w2.cell? ⟨w.heap.size, 3, none⟩ = some (.int .i64 p.f3) ∧ w2.cell? ⟨w.heap.size, 4, none⟩ = some (.int .i64 p.f4) ∧ w2.cell? ⟨w.heap.size, 5, none⟩ = some (.int .i64 p.f5) ∧ w2.cell? ⟨w.heap.size, 6, none⟩ = some (.int .i64 p.f6) := ⟨keepB hb1 hS.1, keepB hb1 hS.2.1, keepB hb1 hS.2.2.1, keepB hb1 hS.2.2.2.1, keepB hb1 hS.2.2.2.2.1, keepB hb1 hS.2.2.2.2.2.1, keepB hb1 hS.2.2.2.2.2.2.1, keepB hb1 hS.2.2.2.2.2.2.2.1, keepB hb1 hS.2.2.2.2.2.2.2.2.1, keepB hb1 hS.2.2.2.2.2.2.2.2.2⟩) | fail)
    all_goals exact ⟨rfl, rfl, Below.trans hbw (hb1.mono hbw.size), hkd⟩
  rintro w2 ⟨hbx, hHeld⟩
  clear hS
  have hbw2 : Below w.heap.size w w2.drew := below_drew1 (hbx)
  have HB8 : Below ws.heap.size ws w2.drew := Below.trans hbel (hbw2.mono hbel.size)
  have HR8 := Kd.R_below hR hbw2
  have HL8 := hB.belowS hbw2
  have g0 : w2.drew.cell? ⟨w.heap.size, 0, none⟩ = some (.int .i64 p.f0) := hHeld.2.2.2.1
  have g1 : w2.drew.cell? ⟨w.heap.size, 1, none⟩ = some (.int .i64 p.f1) := hHeld.2.2.2.2.1
  have g2 : w2.drew.cell? ⟨w.heap.size, 2, none⟩ = some (.int .i64 p.f2) := hHeld.2.2.2.2.2.1
  have g3 : w2.drew.cell? ⟨w.heap.size, 3, none⟩ = some (.int .i64 p.f3) := hHeld.2.2.2.2.2.2.1
  have g4 : w2.drew.cell? ⟨w.heap.size, 4, none⟩ = some (.int .i64 p.f4) := hHeld.2.2.2.2.2.2.2.1
  have g5 : w2.drew.cell? ⟨w.heap.size, 5, none⟩ = some (.int .i64 p.f5) := hHeld.2.2.2.2.2.2.2.2.1
  have g6 : w2.drew.cell? ⟨w.heap.size, 6, none⟩ = some (.int .i64 p.f6) := hHeld.2.2.2.2.2.2.2.2.2
  have gk : w2.cell? ⟨w.heap.size, 0, none⟩ = some (.int .i64 p.f0) := g0
  rw [HO.out] at g6
  clear hHeld c0' c1' cq' e0 e1 e2 e3 e4 e5 e6 hw1
  go_wp2
  refine start_ (n := 27) (S := fun w' => w'.cell? ⟨w.heap.size, 6, none⟩ = some (.int .i64 (o : Int))) (ds := []) (bb 27 0) (by kernel_rfl) rfl rfl (g6) (fun hHeld => ?_)
  generalize w2.drew = wd2 at *
  refine pure_ (i := 0) (N := some 46) (v := ?_) (a' := ?_) (bb 27 1) rfl rfl (by kernel_rfl) (fun _ _ _ h => h) (Or.inl ⟨by rfl, ?_⟩) ?_ ?_
  rotate_left; (intro w'; go_simp; with_reducible rfl); rotate_left; (simp only [Act.put, z1, z2, z3, i64_w, i32_w]; rfl)
  refine pure_ (i := 2) (N := some 48) (v := ?_) (a' := ?_) (bb 27 5) rfl rfl (by kernel_rfl) (fun _ _ _ h => h) (Or.inl ⟨by rfl, ?_⟩) ?_ ?_
  rotate_left; (intro w'; go_simp; with_reducible rfl); rotate_left; (simp only [Act.put, z1, z2, z3, i64_w, i32_w]; rfl)
  refine take_ (i := 1) (N := some 47) (v := ?_) (a' := ?_) (bb 27 7) rfl rfl (by kernel_rfl) (fun _ _ _ h => h) (Or.inl ⟨by rfl, ?_⟩) hHeld ?_ ?_
  rotate_left; (intro w' s0; go_simp; with_reducible rfl); rotate_left; (simp only [Act.put, z1, z2, z3, i64_w, i32_w]; rfl)
  refine pure_ (i := 3) (N := some 49) (v := ?_) (a' := ?_) (bb 27 15) rfl rfl (by kernel_rfl) (fun _ _ _ h => h) (Or.inl ⟨by rfl, ?_⟩) ?_ ?_
  rotate_left; (intro w'; go_simp; with_reducible rfl); rotate_left; (simp only [Act.put, z1, z2, z3, i64_w, i32_w]; rfl)
  refine pure_ (i := 4) (N := some 50) (v := ?_) (a' := ?_) (bb 27 31) rfl rfl (by kernel_rfl) (fun _ _ _ h => h) (Or.inl ⟨by rfl, ?_⟩) ?_ ?_
  rotate_left; (intro w'; go_simp; with_reducible rfl); rotate_left; (simp only [Act.put, z1, z2, z3, i64_w, i32_w]; rfl)
  refine pure_ (i := 5) (N := some 51) (v := undef) (a' := ?_) (bb 27 63) rfl rfl (by kernel_rfl) (fun _ _ _ h => h) (Or.inr ⟨by rfl, rfl⟩) ?_ ?_
  rotate_left; (simp only [Act.put, z1, z2, z3, i64_w, i32_w]; rfl)
  refine pure_ (i := 6) (N := some 52) (v := undef) (a' := ?_) (bb 27 127) rfl rfl (by kernel_rfl) (fun _ _ _ h => h) (Or.inr ⟨by rfl, rfl⟩) ?_ ?_
  rotate_left; (simp only [Act.put, z1, z2, z3, i64_w, i32_w]; rfl)
  refine pure_ (i := 7) (N := some 53) (v := undef) (a' := ?_) (bb 27 255) rfl rfl (by kernel_rfl) (fun _ _ _ h => h) (Or.inr ⟨by rfl, rfl⟩) ?_ ?_
  rotate_left; (simp only [Act.put, z1, z2, z3, i64_w, i32_w]; rfl)
  refine pure_ (i := 8) (N := some 54) (v := undef) (a' := ?_) (bb 27 511) rfl rfl (by kernel_rfl) (fun _ _ _ h => h) (Or.inr ⟨by rfl, rfl⟩) ?_ ?_
  rotate_left; (simp only [Act.put, z1, z2, z3, i64_w, i32_w]; rfl)
  refine pure_ (i := 9) (N := some 55) (v := undef) (a' := ?_) (bb 27 1023) rfl rfl (by kernel_rfl) (fun _ _ _ h => h) (Or.inr ⟨by rfl, rfl⟩) ?_ ?_
  rotate_left; (simp only [Act.put, z1, z2, z3, i64_w, i32_w]; rfl)
  refine pure_ (i := 10) (N := some 56) (v := undef) (a' := ?_) (bb 27 2047) rfl rfl (by kernel_rfl) (fun _ _ _ h => h) (Or.inr ⟨by rfl, rfl⟩) ?_ ?_
  rotate_left; (simp only [Act.put, z1, z2, z3, i64_w, i32_w]; rfl)
  refine pure_ (i := 11) (N := some 57) (v := undef) (a' := ?_) (bb 27 4095) rfl rfl (by kernel_rfl) (fun _ _ _ h => h) (Or.inr ⟨by rfl, rfl⟩) ?_ ?_
  rotate_left; (simp only [Act.put, z1, z2, z3, i64_w, i32_w]; rfl)
  refine pure_ (i := 12) (N := some 58) (v := ?_) (a' := ?_) (bb 27 8191) rfl rfl (by kernel_rfl) (fun _ _ _ h => h) (Or.inl ⟨by rfl, ?_⟩) ?_ ?_
  rotate_left; (intro w'; go_simp; with_reducible rfl); rotate_left; (simp only [Act.put, z1, z2, z3, i64_w, i32_w]; rfl)
  refine pure_ (i := 13) (N := some 59) (v := ?_) (a' := ?_) (bb 27 16383) rfl rfl (by kernel_rfl) (fun _ _ _ h => h) (Or.inl ⟨by rfl, ?_⟩) ?_ ?_
  rotate_left; (intro w'; go_simp; with_reducible rfl); rotate_left; (simp only [Act.put, z1, z2, z3, i64_w, i32_w]; rfl)
  refine pure_ (i := 14) (N := some 60) (v := undef) (a' := ?_) (bb 27 32767) rfl rfl (by kernel_rfl) (fun _ _ _ h => h) (Or.inr ⟨by rfl, rfl⟩) ?_ ?_
  rotate_left; (simp only [Act.put, z1, z2, z3, i64_w, i32_w]; rfl)
  refine pure_ (i := 15) (N := some 61) (v := undef) (a' := ?_) (bb 27 65535) rfl rfl (by kernel_rfl) (fun _ _ _ h => h) (Or.inr ⟨by rfl, rfl⟩) ?_ ?_
  rotate_left; (simp only [Act.put, z1, z2, z3, i64_w, i32_w]; rfl)
  refine pure_ (i := 16) (N := some 62) (v := undef) (a' := ?_) (bb 27 131071) rfl rfl (by kernel_rfl) (fun _ _ _ h => h) (Or.inr ⟨by rfl, rfl⟩) ?_ ?_
  rotate_left; (simp only [Act.put, z1, z2, z3, i64_w, i32_w]; rfl)
  refine pure_ (i := 17) (N := some 63) (v := undef) (a' := ?_) (bb 27 262143) rfl rfl (by kernel_rfl) (fun _ _ _ h => h) (Or.inr ⟨by rfl, rfl⟩) ?_ ?_
  rotate_left; (simp only [Act.put, z1, z2, z3, i64_w, i32_w]; rfl)
  refine pure_ (i := 18) (N := some 64) (v := undef) (a' := ?_) (bb 27 524287) rfl rfl (by kernel_rfl) (fun _ _ _ h => h) (Or.inr ⟨by rfl, rfl⟩) ?_ ?_
  rotate_left; (simp only [Act.put, z1, z2, z3, i64_w, i32_w]; rfl)
  refine pure_ (i := 19) (N := some 65) (v := undef) (a' := ?_) (bb 27 1048575) rfl rfl (by kernel_rfl) (fun _ _ _ h => h) (Or.inr ⟨by rfl, rfl⟩) ?_ ?_
  rotate_left; (simp only [Act.put, z1, z2, z3, i64_w, i32_w]; rfl)
  refine pure_ (i := 20) (N := some 66) (v := undef) (a' := ?_) (bb 27 2097151) rfl rfl (by kernel_rfl) (fun _ _ _ h => h) (Or.inr ⟨by rfl, rfl⟩) ?_ ?_
  rotate_left; (simp only [Act.put, z1, z2, z3, i64_w, i32_w]; rfl)
  refine pure_ (i := 21) (N := some 67) (v := undef) (a' := ?_) (bb 27 4194303) rfl rfl (by kernel_rfl) (fun _ _ _ h => h) (Or.inr ⟨by rfl, rfl⟩) ?_ ?_
  rotate_left; (simp only [Act.put, z1, z2, z3, i64_w, i32_w]; rfl)
  refine pure_ (i := 22) (N := some 68) (v := undef) (a' := ?_) (bb 27 8388607) rfl rfl (by kernel_rfl) (fun _ _ _ h => h) (Or.inr ⟨by rfl, rfl⟩) ?_ ?_
  rotate_left; (simp only [Act.put, z1, z2, z3, i64_w, i32_w]; rfl)
  refine pure_ (i := 23) (N := some 69) (v := undef) (a' := ?_) (bb 27 16777215) rfl rfl (by kernel_rfl) (fun _ _ _ h => h) (Or.inr ⟨by rfl, rfl⟩) ?_ ?_
  rotate_left; (simp only [Act.put, z1, z2, z3, i64_w, i32_w]; rfl)
  refine pure_ (i := 24) (N := some 70) (v := undef) (a' := ?_) (bb 27 33554431) rfl rfl (by kernel_rfl) (fun _ _ _ h => h) (Or.inr ⟨by rfl, rfl⟩) ?_ ?_
  rotate_left; (simp only [Act.put, z1, z2, z3, i64_w, i32_w]; rfl)
  refine pure_ (i := 25) (N := some 71) (v := undef) (a' := ?_) (bb 27 67108863) rfl rfl (by kernel_rfl) (fun _ _ _ h => h) (Or.inr ⟨by rfl, rfl⟩) ?_ ?_
  rotate_left; (simp only [Act.put, z1, z2, z3, i64_w, i32_w]; rfl)
  refine pure_ (i := 26) (N := some 72) (v := ?_) (a' := ?_) (bb 27 134217727) rfl rfl (by kernel_rfl) (fun _ _ _ h => h) (Or.inl ⟨by rfl, ?_⟩) ?_ ?_
  rotate_left; (intro w'; go_simp; with_reducible rfl); rotate_left; (simp only [Act.put, z1, z2, z3, i64_w, i32_w]; rfl)
  refine done_ (by kernel_rfl) ?_
  go_wp2
  go_ret
  exact ⟨rfl, hbw2⟩
theorem back_walk' (p u : S27) (o : Nat) (ho : p.f6 = (o : Int)) (r : Bool) (h : isBackB p u = r) (w : World) : Calls Tryd.prog 64 #[.agg #[.int .i64 p.f0, .int .i64 p.f1, .int .i64 p.f2, .int .i64 p.f3, .int .i64 p.f4, .int .i64 p.f5, .int .i64 (o : Int)], .agg #[.int .i64 u.f0, .int .i64 u.f1, .int .i64 u.f2, .int .i64 u.f3, .int .i64 u.f4, .int .i64 u.f5, .int .i64 u.f6]] w fun e w' => e = .returned (.bool r) ∧ Below w.heap.size w w' := by
  rw [← ho, ← h]
  exact back_walk p u w
theorem led_back {w : World} {B : Nat} {acc clo : Int} {v : Value} {bk : List Bool} (h : Led w B acc v clo bk) (o : Nat) (b : Bool) (hb : bk[o]? = some b) : w.cell? ⟨B, 3 + o, none⟩ = some (.bool b) := by
  refine h.cell ?_
  rw [Nat.add_comm]
  simp [ledCells, hb]
theorem led_set {w : World} {B : Nat} {acc clo : Int} {v : Value} {bk : List Bool} (h : Led w B acc v clo bk) (o : Nat) : Led (w.setCell ⟨B, 3 + o, none⟩ (.bool true)) B acc v clo (bk.set o true) := by
  have h2 := h.set (3 + o) (.bool true)
  have e : (ledCells acc v clo bk).set (3 + o) (.bool true) = ledCells acc v clo (bk.set o true) := by
    rw [Nat.add_comm]
    simp [ledCells, List.map_set]
  rw [e] at h2
  exact h2
theorem keepX {w w2 : World} {a : Addr} {v : Value} (hb : Below w.heap.size w w2) (h : w.cell? a = some v) : w2.cell? a = some v := keepB hb h
set_option maxRecDepth 100000 in
set_option maxHeartbeats 4000000 in
theorem takes_twice (ws : World) (B : Nat) (acc clo : Int) (ad : Addr) (c n m o : Nat) (hnm : n = m + 1) (bk : List Bool) (ps : List S27) (p q : S27) (w : World) (hbel : Below ws.heap.size ws w) (hBb : ws.heap.size ≤ B) (hB : Led w B acc (.slice (some ad) n c) clo bk) (hR : Kd.R k27 27 w ws.heap.size (fun _ => True) (.slice (some ad) n c) ps) (hps : ps.length ≤ 1000) (hneB : some B ≠ (Value.slice (some ad) n c).ownBlock) (hn : n < 200) (hf : formedB acc p = true) (hq : w.cell? ⟨(ad.add (m * 7)).block, (ad.add (m * 7)).off + 1, none⟩ = some (.int .i64 q.f1)) (hday : ¬ p.f1 < q.f1) (hk : p.f0 = 3) (ho : p.f6 = (o : Int)) (hon : o < n) (hbk : bk[o]? = some true) :
    Calls Tryd.prog 51 #[.pointer (some ⟨B, 0, none⟩), pv p] w fun e w' => e = .returned (.bool false) ∧ Below w.heap.size w w' := by
  have c0 : w.cell? ⟨B, 0, none⟩ = some (.int .i64 acc) := hB.cell rfl
  have c1 : w.cell? ⟨B, 1, none⟩ = some (.slice (some ad) n c) := hB.cell rfl
  have e0 := box_cells w p 0 _ rfl 27
  have e1 := box_cells w p 1 _ rfl 27
  have e2 := box_cells w p 2 _ rfl 27
  have e3 := box_cells w p 3 _ rfl 27
  have e4 := box_cells w p 4 _ rfl 27
  have e5 := box_cells w p 5 _ rfl 27
  have e6 := box_cells w p 6 _ rfl 27
  have c0' := c_old (o := .cells (pcells p).toArray 27) c0
  have c1' := c_old (o := .cells (pcells p).toArray 27) c1
  have cq' := c_old (o := .cells (pcells p).toArray 27) hq
  have hd : decide ((200 : Int) ≤ (n : Int)) = false := decide_eq_false (by omega)
  have hp : decide ((0 : Int) < (n : Int)) = true := decide_eq_true (by omega)
  have hp2 : decide (0 < n) = true := decide_eq_true (by omega)
  have hi0 : (0 : Int) ≤ (m : Int) := by omega
  have hi1 : (m : Int) < (n : Int) := by omega
  have hw : IntKind.i64.wrap ((n : Int) - 1) = (m : Int) := by rw [IntWalk.i64_in _ (by omega)]; omega
  have hlt : decide (p.f1 < q.f1) = false := decide_eq_false hday
  have hk3 : (p.f0 == 3) = true := beq_iff_eq.2 hk
  have HNX := Lib.hid (show some w.heap.size ≠ (Value.slice (some ad) n c).ownBlock from fun e => Nat.lt_irrefl _ (Kd.R_lt hR _ e.symm))
  have HNB := Lib.hid hneB
  have HPS := Lib.hid hps
  have HO := Lib.hid ho
  obtain ⟨hnl, hnc, hC⟩ := Kd.R_reads' hR
  have honl : (o : Int) < ((ps.length : Nat) : Int) := by omega
  obtain ⟨ad', ead, x0, x1, x2, x3, x4, x5, x6⟩ := at_T27 hC (o : Int) (by omega) honl
  obtain rfl := Option.some.inj ead
  rw [Int.toNat_natCast] at x0 x1 x2 x3 x4 x5 x6
  generalize rd_T27 ps (o : Int) = u at *
  have hx1 : decide ((n : Int) ≤ (o : Int)) = false := decide_eq_false (by omega)
  have hx2 : decide (n ≤ o) = false := decide_eq_false (by omega)
  have hx3 : (o : Int) < (n : Int) := by omega
  have hx4 : (0 : Int) ≤ (o : Int) := by omega
  have hx5 : (o : Int) < 200 := by omega
  have hx6 : o < 200 := by omega
  have hx7 : o < n := by omega
  clear hnl hnc hC honl
  unfold pv
  unfold pcells at c0' c1' cq' e0 e1 e2 e3 e4 e5 e6
  clear c0 c1 hq hnm hneB hps hk hday ho
  go_enter Tryd.func51, Tryd.ntmps51
  go_wp2
  generalize hw1 : w.alloc (.cells [Value.int .i64 p.f0, .int .i64 p.f1, .int .i64 p.f2, .int .i64 p.f3, .int .i64 p.f4, .int .i64 p.f5, .int .i64 p.f6].toArray 27) = w1 at *
  have hbw : Below w.heap.size w w1.drew := below_drew1 (by rw [← hw1]; exact (Below.refl _ _).alloc (Nat.le_refl _) _)
  have hS : w1.drew.cell? ⟨B, 0, none⟩ = some (.int .i64 acc) ∧ w1.drew.cell? ⟨B, 1, none⟩ = some (.slice (some ad) n c) ∧ w1.drew.cell? ⟨(ad.add (m * 7)).block, (ad.add (m * 7)).off + 1, none⟩ = some (.int .i64 q.f1) ∧ w1.drew.cell? ⟨w.heap.size, 0, none⟩ = some (.int .i64 p.f0) ∧ w1.drew.cell? ⟨w.heap.size, 1, none⟩ = some (.int .i64 p.f1) ∧ w1.drew.cell? ⟨w.heap.size, 2, none⟩ = some (.int .i64 p.f2) ∧ w1.drew.cell? ⟨w.heap.size, 3, none⟩ = some (.int .i64 p.f3) ∧ w1.drew.cell? ⟨w.heap.size, 4, none⟩ = some (.int .i64 p.f4) ∧ w1.drew.cell? ⟨w.heap.size, 5, none⟩ = some (.int .i64 p.f5) ∧ w1.drew.cell? ⟨w.heap.size, 6, none⟩ = some (.int .i64 p.f6) := ⟨c0', c1', cq', e0, e1, e2, e3, e4, e5, e6⟩
  apply wp_mid (M := fun w' => Below w.heap.size w w' ∧ (w'.cell? ⟨B, 0, none⟩ = some (.int .i64 acc) ∧ w'.cell? ⟨B, 1, none⟩ = some (.slice (some ad) n c) ∧ w'.cell? ⟨(ad.add (m * 7)).block, (ad.add (m * 7)).off + 1, none⟩ = some (.int .i64 q.f1) ∧ w'.cell? ⟨w.heap.size, 0, none⟩ = some (.int .i64 p.f0) ∧ w'.cell? ⟨w.heap.size, 1, none⟩ = some (.int .i64 p.f1) ∧ w'.cell? ⟨w.heap.size, 2, none⟩ = some (.int .i64 p.f2) ∧ w'.cell? ⟨w.heap.size, 3, none⟩ = some (.int .i64 p.f3) ∧ w'.cell? ⟨w.heap.size, 4, none⟩ = some (.int .i64 p.f4) ∧ w'.cell? ⟨w.heap.size, 5, none⟩ = some (.int .i64 p.f5) ∧ w'.cell? ⟨w.heap.size, 6, none⟩ = some (.int .i64 p.f6)))
  · go_region_held3 (fun w' => w'.cell? ⟨B, 0, none⟩ = some (.int .i64 acc) ∧ w'.cell? ⟨B, 1, none⟩ = some (.slice (some ad) n c) ∧ w'.cell? ⟨(ad.add (m * 7)).block, (ad.add (m * 7)).off + 1, none⟩ = some (.int .i64 q.f1) ∧ w'.cell? ⟨w.heap.size, 0, none⟩ = some (.int .i64 p.f0) ∧ w'.cell? ⟨w.heap.size, 1, none⟩ = some (.int .i64 p.f1) ∧ w'.cell? ⟨w.heap.size, 2, none⟩ = some (.int .i64 p.f2) ∧ w'.cell? ⟨w.heap.size, 3, none⟩ = some (.int .i64 p.f3) ∧ w'.cell? ⟨w.heap.size, 4, none⟩ = some (.int .i64 p.f4) ∧ w'.cell? ⟨w.heap.size, 5, none⟩ = some (.int .i64 p.f5) ∧ w'.cell? ⟨w.heap.size, 6, none⟩ = some (.int .i64 p.f6)) (first | (with_reducible exact hkd) | (with_reducible exact hS) | fail) (first | (go_at_call 63; (with_reducible refine (formed_walk' acc p true hf _).mono ?_); rintro e w2 ⟨rfl, hb1⟩; have hkd : w2.cell? ⟨B, 0, none⟩ = some (.int .i64 acc) ∧ w2.cell? ⟨B, 1, none⟩ = some (.slice (some ad) n c) ∧ w2.cell? ⟨(ad.add (m * 7)).block, (ad.add (m * 7)).off + 1, none⟩ = some (.int .i64 q.f1) ∧ w2.cell? ⟨w.heap.size, 0, none⟩ = some (.int .i64 p.f0) ∧ w2.cell? ⟨w.heap.size, 1, none⟩ = some (.int .i64 p.f1) ∧ w2.cell? ⟨w.heap.size, 2, none⟩ = some (.int .i64 p.f2) ∧ w2.cell? ⟨w.heap.size, 3, none⟩ = some (.int .i64 p.f3) ∧ w2.cell? ⟨w.heap.size, 4, none⟩ = some (.int .i64 p.f4) ∧ w2.cell? ⟨w.heap.size, 5, none⟩ = some (.int .i64 p.f5) ∧ w2.cell? ⟨w.heap.size, 6, none⟩ = some (.int .i64 p.f6) := ⟨keepB hb1 hS.1, keepB hb1 hS.2.1, keepB hb1 hS.2.2.1, keepB hb1 hS.2.2.2.1, keepB hb1 hS.2.2.2.2.1, keepB hb1 hS.2.2.2.2.2.1, keepB hb1 hS.2.2.2.2.2.2.1, keepB hb1 hS.2.2.2.2.2.2.2.1, keepB hb1 hS.2.2.2.2.2.2.2.2.1, keepB hb1 hS.2.2.2.2.2.2.2.2.2⟩) | fail)
    all_goals exact ⟨rfl, rfl, Below.trans hbw (hb1.mono hbw.size), hkd⟩
  rintro w2 ⟨hbx, hHeld⟩
  clear hS
  have hbw2 : Below w.heap.size w w2.drew := below_drew1 (hbx)
  have HB8 : Below ws.heap.size ws w2.drew := Below.trans hbel (hbw2.mono hbel.size)
  have HR8 := Kd.R_below hR hbw2
  have HL8 := hB.belowS hbw2
  have g0 : w2.drew.cell? ⟨w.heap.size, 0, none⟩ = some (.int .i64 p.f0) := hHeld.2.2.2.1
  have g1 : w2.drew.cell? ⟨w.heap.size, 1, none⟩ = some (.int .i64 p.f1) := hHeld.2.2.2.2.1
  have g2 : w2.drew.cell? ⟨w.heap.size, 2, none⟩ = some (.int .i64 p.f2) := hHeld.2.2.2.2.2.1
  have g3 : w2.drew.cell? ⟨w.heap.size, 3, none⟩ = some (.int .i64 p.f3) := hHeld.2.2.2.2.2.2.1
  have g4 : w2.drew.cell? ⟨w.heap.size, 4, none⟩ = some (.int .i64 p.f4) := hHeld.2.2.2.2.2.2.2.1
  have g5 : w2.drew.cell? ⟨w.heap.size, 5, none⟩ = some (.int .i64 p.f5) := hHeld.2.2.2.2.2.2.2.2.1
  have g6 : w2.drew.cell? ⟨w.heap.size, 6, none⟩ = some (.int .i64 p.f6) := hHeld.2.2.2.2.2.2.2.2.2
  have gk : w2.cell? ⟨w.heap.size, 0, none⟩ = some (.int .i64 p.f0) := g0
  rw [HO.out] at g6
  clear hHeld c0' c1' cq' e0 e1 e2 e3 e4 e5 e6 hw1
  go_wp2
  have y0 := keepX hbw2 x0
  have y1 := keepX hbw2 x1
  have y2 := keepX hbw2 x2
  have y3 := keepX hbw2 x3
  have y4 := keepX hbw2 x4
  have y5 := keepX hbw2 x5
  have y6 := keepX hbw2 x6
  refine start_ (n := 27) (S := fun w' => w'.cell? ⟨w.heap.size, 0, none⟩ = some (.int .i64 p.f0) ∧ w'.cell? ⟨w.heap.size, 1, none⟩ = some (.int .i64 p.f1) ∧ w'.cell? ⟨w.heap.size, 2, none⟩ = some (.int .i64 p.f2) ∧ w'.cell? ⟨w.heap.size, 3, none⟩ = some (.int .i64 p.f3) ∧ w'.cell? ⟨w.heap.size, 4, none⟩ = some (.int .i64 p.f4) ∧ w'.cell? ⟨w.heap.size, 5, none⟩ = some (.int .i64 p.f5) ∧ w'.cell? ⟨w.heap.size, 6, none⟩ = some (.int .i64 (o : Int)) ∧ w'.cell? ⟨B, 1, none⟩ = some (.slice (some ad) n c) ∧ w'.cell? ⟨B, 3 + o, none⟩ = some (.bool true) ∧ w'.cell? (ad.add (o * 7)) = some (.int .i64 u.f0) ∧ w'.cell? ⟨(ad.add (o * 7)).block, (ad.add (o * 7)).off + 1, none⟩ = some (.int .i64 u.f1) ∧ w'.cell? ⟨(ad.add (o * 7)).block, (ad.add (o * 7)).off + 2, none⟩ = some (.int .i64 u.f2) ∧ w'.cell? ⟨(ad.add (o * 7)).block, (ad.add (o * 7)).off + 3, none⟩ = some (.int .i64 u.f3) ∧ w'.cell? ⟨(ad.add (o * 7)).block, (ad.add (o * 7)).off + 4, none⟩ = some (.int .i64 u.f4) ∧ w'.cell? ⟨(ad.add (o * 7)).block, (ad.add (o * 7)).off + 5, none⟩ = some (.int .i64 u.f5) ∧ w'.cell? ⟨(ad.add (o * 7)).block, (ad.add (o * 7)).off + 6, none⟩ = some (.int .i64 u.f6)) (ds := []) (bb 27 0) (by kernel_rfl) rfl rfl ⟨g0, g1, g2, g3, g4, g5, g6, HL8.cell rfl, led_back HL8 o _ hbk, y0, y1, y2, y3, y4, y5, y6⟩ (fun hHeld => ?_)
  generalize w2.drew = wd2 at *
  refine pure_ (i := 0) (N := some 46) (v := ?_) (a' := ?_) (bb 27 1) rfl rfl (by kernel_rfl) (fun _ _ _ h => h) (Or.inl ⟨by rfl, ?_⟩) ?_ ?_
  rotate_left; (intro w'; go_simp; with_reducible rfl); rotate_left; (simp only [Act.put, z1, z2, z3, i64_w, i32_w]; rfl)
  refine pure_ (i := 2) (N := some 48) (v := ?_) (a' := ?_) (bb 27 5) rfl rfl (by kernel_rfl) (fun _ _ _ h => h) (Or.inl ⟨by rfl, ?_⟩) ?_ ?_
  rotate_left; (intro w'; go_simp; with_reducible rfl); rotate_left; (simp only [Act.put, z1, z2, z3, i64_w, i32_w]; rfl)
  refine take_ (i := 1) (N := some 47) (v := ?_) (a' := ?_) (bb 27 7) rfl rfl (by kernel_rfl) (fun _ _ _ h => h) (Or.inl ⟨by rfl, ?_⟩) hHeld ?_ ?_
  rotate_left; (rintro w' ⟨s0, s1, s2, s3, s4, s5, s6, s7, s8, s9, s10, s11, s12, s13, s14, s15⟩; go_simp; with_reducible rfl); rotate_left; (simp only [Act.put, z1, z2, z3, i64_w, i32_w]; rfl)
  refine pure_ (i := 3) (N := some 49) (v := ?_) (a' := ?_) (bb 27 15) rfl rfl (by kernel_rfl) (fun _ _ _ h => h) (Or.inl ⟨by rfl, ?_⟩) ?_ ?_
  rotate_left; (intro w'; go_simp; with_reducible rfl); rotate_left; (simp only [Act.put, z1, z2, z3, i64_w, i32_w]; rfl)
  refine pure_ (i := 4) (N := some 50) (v := ?_) (a' := ?_) (bb 27 31) rfl rfl (by kernel_rfl) (fun _ _ _ h => h) (Or.inl ⟨by rfl, ?_⟩) ?_ ?_
  rotate_left; (intro w'; go_simp; with_reducible rfl); rotate_left; (simp only [Act.put, z1, z2, z3, i64_w, i32_w]; rfl)
  refine pure_ (i := 5) (N := some 51) (v := ?_) (a' := ?_) (bb 27 63) rfl rfl (by kernel_rfl) (fun _ _ _ h => h) (Or.inl ⟨by rfl, ?_⟩) ?_ ?_
  rotate_left; (intro w'; go_simp; with_reducible rfl); rotate_left; (simp only [Act.put, z1, z2, z3, i64_w, i32_w]; rfl)
  refine pure_ (i := 6) (N := some 52) (v := ?_) (a' := ?_) (bb 27 127) rfl rfl (by kernel_rfl) (fun _ _ _ h => h) (Or.inl ⟨by rfl, ?_⟩) ?_ ?_
  rotate_left; (intro w'; go_simp; with_reducible rfl); rotate_left; (simp only [Act.put, z1, z2, z3, i64_w, i32_w]; rfl)
  refine pure_ (i := 8) (N := some 54) (v := ?_) (a' := ?_) (bb 27 383) rfl rfl (by kernel_rfl) (fun _ _ _ h => h) (Or.inl ⟨by rfl, ?_⟩) ?_ ?_
  rotate_left; (intro w'; go_simp; with_reducible rfl); rotate_left; (simp only [Act.put, z1, z2, z3, i64_w, i32_w]; rfl)
  refine pure_ (i := 9) (N := some 55) (v := ?_) (a' := ?_) (bb 27 895) rfl rfl (by kernel_rfl) (fun _ _ _ h => h) (Or.inl ⟨by rfl, ?_⟩) ?_ ?_
  rotate_left; (intro w'; go_simp; with_reducible rfl); rotate_left; (simp only [Act.put, z1, z2, z3, i64_w, i32_w]; rfl)
  refine take_ (i := 7) (N := some 53) (v := ?_) (a' := ?_) (bb 27 1023) rfl rfl (by kernel_rfl) (fun _ _ _ h => h) (Or.inl ⟨by rfl, ?_⟩) hHeld ?_ ?_
  rotate_left; (rintro w' ⟨s0, s1, s2, s3, s4, s5, s6, s7, s8, s9, s10, s11, s12, s13, s14, s15⟩; go_simp; with_reducible rfl); rotate_left; (simp only [Act.put, z1, z2, z3, i64_w, i32_w]; rfl)
  refine pure_ (i := 10) (N := some 56) (v := ?_) (a' := ?_) (bb 27 2047) rfl rfl (by kernel_rfl) (fun _ _ _ h => h) (Or.inl ⟨by rfl, ?_⟩) ?_ ?_
  rotate_left; (intro w'; go_simp; with_reducible rfl); rotate_left; (simp only [Act.put, z1, z2, z3, i64_w, i32_w]; rfl)
  refine take_ (i := 11) (N := some 57) (v := ?_) (a' := ?_) (bb 27 4095) rfl rfl (by kernel_rfl) (fun _ _ _ h => h) (Or.inl ⟨by rfl, ?_⟩) hHeld ?_ ?_
  rotate_left; (rintro w' ⟨s0, s1, s2, s3, s4, s5, s6, s7, s8, s9, s10, s11, s12, s13, s14, s15⟩; go_simp; with_reducible rfl); rotate_left; (simp only [Act.put, z1, z2, z3, i64_w, i32_w]; rfl)
  refine pure_ (i := 12) (N := some 58) (v := ?_) (a' := ?_) (bb 27 8191) rfl rfl (by kernel_rfl) (fun _ _ _ h => h) (Or.inl ⟨by rfl, ?_⟩) ?_ ?_
  rotate_left; (intro w'; go_simp; with_reducible rfl); rotate_left; (simp only [Act.put, z1, z2, z3, i64_w, i32_w]; rfl)
  refine pure_ (i := 13) (N := some 59) (v := ?_) (a' := ?_) (bb 27 16383) rfl rfl (by kernel_rfl) (fun _ _ _ h => h) (Or.inl ⟨by rfl, ?_⟩) ?_ ?_
  rotate_left; (intro w'; go_simp; with_reducible rfl); rotate_left; (simp only [Act.put, z1, z2, z3, i64_w, i32_w]; rfl)
  refine pure_ (i := 14) (N := some 60) (v := undef) (a' := ?_) (bb 27 32767) rfl rfl (by kernel_rfl) (fun _ _ _ h => h) (Or.inr ⟨by rfl, rfl⟩) ?_ ?_
  rotate_left; (simp only [Act.put, z1, z2, z3, i64_w, i32_w]; rfl)
  refine pure_ (i := 15) (N := some 61) (v := undef) (a' := ?_) (bb 27 65535) rfl rfl (by kernel_rfl) (fun _ _ _ h => h) (Or.inr ⟨by rfl, rfl⟩) ?_ ?_
  rotate_left; (simp only [Act.put, z1, z2, z3, i64_w, i32_w]; rfl)
  refine pure_ (i := 16) (N := some 62) (v := undef) (a' := ?_) (bb 27 131071) rfl rfl (by kernel_rfl) (fun _ _ _ h => h) (Or.inr ⟨by rfl, rfl⟩) ?_ ?_
  rotate_left; (simp only [Act.put, z1, z2, z3, i64_w, i32_w]; rfl)
  refine pure_ (i := 17) (N := some 63) (v := undef) (a' := ?_) (bb 27 262143) rfl rfl (by kernel_rfl) (fun _ _ _ h => h) (Or.inr ⟨by rfl, rfl⟩) ?_ ?_
  rotate_left; (simp only [Act.put, z1, z2, z3, i64_w, i32_w]; rfl)
  refine pure_ (i := 18) (N := some 64) (v := undef) (a' := ?_) (bb 27 524287) rfl rfl (by kernel_rfl) (fun _ _ _ h => h) (Or.inr ⟨by rfl, rfl⟩) ?_ ?_
  rotate_left; (simp only [Act.put, z1, z2, z3, i64_w, i32_w]; rfl)
  refine pure_ (i := 19) (N := some 65) (v := undef) (a' := ?_) (bb 27 1048575) rfl rfl (by kernel_rfl) (fun _ _ _ h => h) (Or.inr ⟨by rfl, rfl⟩) ?_ ?_
  rotate_left; (simp only [Act.put, z1, z2, z3, i64_w, i32_w]; rfl)
  refine pure_ (i := 20) (N := some 66) (v := undef) (a' := ?_) (bb 27 2097151) rfl rfl (by kernel_rfl) (fun _ _ _ h => h) (Or.inr ⟨by rfl, rfl⟩) ?_ ?_
  rotate_left; (simp only [Act.put, z1, z2, z3, i64_w, i32_w]; rfl)
  refine pure_ (i := 21) (N := some 67) (v := undef) (a' := ?_) (bb 27 4194303) rfl rfl (by kernel_rfl) (fun _ _ _ h => h) (Or.inr ⟨by rfl, rfl⟩) ?_ ?_
  rotate_left; (simp only [Act.put, z1, z2, z3, i64_w, i32_w]; rfl)
  refine pure_ (i := 22) (N := some 68) (v := undef) (a' := ?_) (bb 27 8388607) rfl rfl (by kernel_rfl) (fun _ _ _ h => h) (Or.inr ⟨by rfl, rfl⟩) ?_ ?_
  rotate_left; (simp only [Act.put, z1, z2, z3, i64_w, i32_w]; rfl)
  refine pure_ (i := 23) (N := some 69) (v := undef) (a' := ?_) (bb 27 16777215) rfl rfl (by kernel_rfl) (fun _ _ _ h => h) (Or.inr ⟨by rfl, rfl⟩) ?_ ?_
  rotate_left; (simp only [Act.put, z1, z2, z3, i64_w, i32_w]; rfl)
  refine pure_ (i := 24) (N := some 70) (v := undef) (a' := ?_) (bb 27 33554431) rfl rfl (by kernel_rfl) (fun _ _ _ h => h) (Or.inr ⟨by rfl, rfl⟩) ?_ ?_
  rotate_left; (simp only [Act.put, z1, z2, z3, i64_w, i32_w]; rfl)
  refine pure_ (i := 25) (N := some 71) (v := undef) (a' := ?_) (bb 27 67108863) rfl rfl (by kernel_rfl) (fun _ _ _ h => h) (Or.inr ⟨by rfl, rfl⟩) ?_ ?_
  rotate_left; (simp only [Act.put, z1, z2, z3, i64_w, i32_w]; rfl)
  refine pure_ (i := 26) (N := some 72) (v := ?_) (a' := ?_) (bb 27 134217727) rfl rfl (by kernel_rfl) (fun _ _ _ h => h) (Or.inl ⟨by rfl, ?_⟩) ?_ ?_
  rotate_left; (intro w'; go_simp; with_reducible rfl); rotate_left; (simp only [Act.put, z1, z2, z3, i64_w, i32_w]; rfl)
  refine done_ (by kernel_rfl) ?_
  go_wp2
  go_ret
  exact ⟨rfl, hbw2⟩
set_option maxRecDepth 100000 in
set_option maxHeartbeats 4000000 in
theorem takes_unlike (ws : World) (B : Nat) (acc clo : Int) (ad : Addr) (c n m o : Nat) (hnm : n = m + 1) (bk : List Bool) (ps : List S27) (p q : S27) (w : World) (hbel : Below ws.heap.size ws w) (hBb : ws.heap.size ≤ B) (hB : Led w B acc (.slice (some ad) n c) clo bk) (hR : Kd.R k27 27 w ws.heap.size (fun _ => True) (.slice (some ad) n c) ps) (hps : ps.length ≤ 1000) (hneB : some B ≠ (Value.slice (some ad) n c).ownBlock) (hn : n < 200) (hf : formedB acc p = true) (hq : w.cell? ⟨(ad.add (m * 7)).block, (ad.add (m * 7)).off + 1, none⟩ = some (.int .i64 q.f1)) (hday : ¬ p.f1 < q.f1) (hk : p.f0 = 3) (ho : p.f6 = (o : Int)) (hon : o < n) (hbk : bk[o]? = some false) (hu : isBackB p (rd_T27 ps (o : Int)) = false) :
    Calls Tryd.prog 51 #[.pointer (some ⟨B, 0, none⟩), pv p] w fun e w' => e = .returned (.bool false) ∧ Below w.heap.size w w' := by
  have c0 : w.cell? ⟨B, 0, none⟩ = some (.int .i64 acc) := hB.cell rfl
  have c1 : w.cell? ⟨B, 1, none⟩ = some (.slice (some ad) n c) := hB.cell rfl
  have e0 := box_cells w p 0 _ rfl 27
  have e1 := box_cells w p 1 _ rfl 27
  have e2 := box_cells w p 2 _ rfl 27
  have e3 := box_cells w p 3 _ rfl 27
  have e4 := box_cells w p 4 _ rfl 27
  have e5 := box_cells w p 5 _ rfl 27
  have e6 := box_cells w p 6 _ rfl 27
  have c0' := c_old (o := .cells (pcells p).toArray 27) c0
  have c1' := c_old (o := .cells (pcells p).toArray 27) c1
  have cq' := c_old (o := .cells (pcells p).toArray 27) hq
  have hd : decide ((200 : Int) ≤ (n : Int)) = false := decide_eq_false (by omega)
  have hp : decide ((0 : Int) < (n : Int)) = true := decide_eq_true (by omega)
  have hp2 : decide (0 < n) = true := decide_eq_true (by omega)
  have hi0 : (0 : Int) ≤ (m : Int) := by omega
  have hi1 : (m : Int) < (n : Int) := by omega
  have hw : IntKind.i64.wrap ((n : Int) - 1) = (m : Int) := by rw [IntWalk.i64_in _ (by omega)]; omega
  have hlt : decide (p.f1 < q.f1) = false := decide_eq_false hday
  have hk3 : (p.f0 == 3) = true := beq_iff_eq.2 hk
  have HNX := Lib.hid (show some w.heap.size ≠ (Value.slice (some ad) n c).ownBlock from fun e => Nat.lt_irrefl _ (Kd.R_lt hR _ e.symm))
  have HNB := Lib.hid hneB
  have HPS := Lib.hid hps
  have HO := Lib.hid ho
  have HU := Lib.hid hu
  clear hu
  obtain ⟨hnl, hnc, hC⟩ := Kd.R_reads' hR
  have honl : (o : Int) < ((ps.length : Nat) : Int) := by omega
  obtain ⟨ad', ead, x0, x1, x2, x3, x4, x5, x6⟩ := at_T27 hC (o : Int) (by omega) honl
  obtain rfl := Option.some.inj ead
  rw [Int.toNat_natCast] at x0 x1 x2 x3 x4 x5 x6
  generalize rd_T27 ps (o : Int) = u at *
  have hx1 : decide ((n : Int) ≤ (o : Int)) = false := decide_eq_false (by omega)
  have hx2 : decide (n ≤ o) = false := decide_eq_false (by omega)
  have hx3 : (o : Int) < (n : Int) := by omega
  have hx4 : (0 : Int) ≤ (o : Int) := by omega
  have hx5 : (o : Int) < 200 := by omega
  have hx6 : o < 200 := by omega
  have hx7 : o < n := by omega
  clear hnl hnc hC honl
  unfold pv
  unfold pcells at c0' c1' cq' e0 e1 e2 e3 e4 e5 e6
  clear c0 c1 hq hnm hneB hps hk hday ho
  go_enter Tryd.func51, Tryd.ntmps51
  go_wp2
  generalize hw1 : w.alloc (.cells [Value.int .i64 p.f0, .int .i64 p.f1, .int .i64 p.f2, .int .i64 p.f3, .int .i64 p.f4, .int .i64 p.f5, .int .i64 p.f6].toArray 27) = w1 at *
  have hbw : Below w.heap.size w w1.drew := below_drew1 (by rw [← hw1]; exact (Below.refl _ _).alloc (Nat.le_refl _) _)
  have hS : w1.drew.cell? ⟨B, 0, none⟩ = some (.int .i64 acc) ∧ w1.drew.cell? ⟨B, 1, none⟩ = some (.slice (some ad) n c) ∧ w1.drew.cell? ⟨(ad.add (m * 7)).block, (ad.add (m * 7)).off + 1, none⟩ = some (.int .i64 q.f1) ∧ w1.drew.cell? ⟨w.heap.size, 0, none⟩ = some (.int .i64 p.f0) ∧ w1.drew.cell? ⟨w.heap.size, 1, none⟩ = some (.int .i64 p.f1) ∧ w1.drew.cell? ⟨w.heap.size, 2, none⟩ = some (.int .i64 p.f2) ∧ w1.drew.cell? ⟨w.heap.size, 3, none⟩ = some (.int .i64 p.f3) ∧ w1.drew.cell? ⟨w.heap.size, 4, none⟩ = some (.int .i64 p.f4) ∧ w1.drew.cell? ⟨w.heap.size, 5, none⟩ = some (.int .i64 p.f5) ∧ w1.drew.cell? ⟨w.heap.size, 6, none⟩ = some (.int .i64 p.f6) := ⟨c0', c1', cq', e0, e1, e2, e3, e4, e5, e6⟩
  apply wp_mid (M := fun w' => Below w.heap.size w w' ∧ (w'.cell? ⟨B, 0, none⟩ = some (.int .i64 acc) ∧ w'.cell? ⟨B, 1, none⟩ = some (.slice (some ad) n c) ∧ w'.cell? ⟨(ad.add (m * 7)).block, (ad.add (m * 7)).off + 1, none⟩ = some (.int .i64 q.f1) ∧ w'.cell? ⟨w.heap.size, 0, none⟩ = some (.int .i64 p.f0) ∧ w'.cell? ⟨w.heap.size, 1, none⟩ = some (.int .i64 p.f1) ∧ w'.cell? ⟨w.heap.size, 2, none⟩ = some (.int .i64 p.f2) ∧ w'.cell? ⟨w.heap.size, 3, none⟩ = some (.int .i64 p.f3) ∧ w'.cell? ⟨w.heap.size, 4, none⟩ = some (.int .i64 p.f4) ∧ w'.cell? ⟨w.heap.size, 5, none⟩ = some (.int .i64 p.f5) ∧ w'.cell? ⟨w.heap.size, 6, none⟩ = some (.int .i64 p.f6)))
  · go_region_held3 (fun w' => w'.cell? ⟨B, 0, none⟩ = some (.int .i64 acc) ∧ w'.cell? ⟨B, 1, none⟩ = some (.slice (some ad) n c) ∧ w'.cell? ⟨(ad.add (m * 7)).block, (ad.add (m * 7)).off + 1, none⟩ = some (.int .i64 q.f1) ∧ w'.cell? ⟨w.heap.size, 0, none⟩ = some (.int .i64 p.f0) ∧ w'.cell? ⟨w.heap.size, 1, none⟩ = some (.int .i64 p.f1) ∧ w'.cell? ⟨w.heap.size, 2, none⟩ = some (.int .i64 p.f2) ∧ w'.cell? ⟨w.heap.size, 3, none⟩ = some (.int .i64 p.f3) ∧ w'.cell? ⟨w.heap.size, 4, none⟩ = some (.int .i64 p.f4) ∧ w'.cell? ⟨w.heap.size, 5, none⟩ = some (.int .i64 p.f5) ∧ w'.cell? ⟨w.heap.size, 6, none⟩ = some (.int .i64 p.f6)) (first | (with_reducible exact hkd) | (with_reducible exact hS) | fail) (first | (go_at_call 63; (with_reducible refine (formed_walk' acc p true hf _).mono ?_); rintro e w2 ⟨rfl, hb1⟩; have hkd : w2.cell? ⟨B, 0, none⟩ = some (.int .i64 acc) ∧ w2.cell? ⟨B, 1, none⟩ = some (.slice (some ad) n c) ∧ w2.cell? ⟨(ad.add (m * 7)).block, (ad.add (m * 7)).off + 1, none⟩ = some (.int .i64 q.f1) ∧ w2.cell? ⟨w.heap.size, 0, none⟩ = some (.int .i64 p.f0) ∧ w2.cell? ⟨w.heap.size, 1, none⟩ = some (.int .i64 p.f1) ∧ w2.cell? ⟨w.heap.size, 2, none⟩ = some (.int .i64 p.f2) ∧ w2.cell? ⟨w.heap.size, 3, none⟩ = some (.int .i64 p.f3) ∧ w2.cell? ⟨w.heap.size, 4, none⟩ = some (.int .i64 p.f4) ∧ w2.cell? ⟨w.heap.size, 5, none⟩ = some (.int .i64 p.f5) ∧ w2.cell? ⟨w.heap.size, 6, none⟩ = some (.int .i64 p.f6) := ⟨keepB hb1 hS.1, keepB hb1 hS.2.1, keepB hb1 hS.2.2.1, keepB hb1 hS.2.2.2.1, keepB hb1 hS.2.2.2.2.1, keepB hb1 hS.2.2.2.2.2.1, keepB hb1 hS.2.2.2.2.2.2.1, keepB hb1 hS.2.2.2.2.2.2.2.1, keepB hb1 hS.2.2.2.2.2.2.2.2.1, keepB hb1 hS.2.2.2.2.2.2.2.2.2⟩) | fail)
    all_goals exact ⟨rfl, rfl, Below.trans hbw (hb1.mono hbw.size), hkd⟩
  rintro w2 ⟨hbx, hHeld⟩
  clear hS
  have hbw2 : Below w.heap.size w w2.drew := below_drew1 (hbx)
  have HB8 : Below ws.heap.size ws w2.drew := Below.trans hbel (hbw2.mono hbel.size)
  have HR8 := Kd.R_below hR hbw2
  have HL8 := hB.belowS hbw2
  have g0 : w2.drew.cell? ⟨w.heap.size, 0, none⟩ = some (.int .i64 p.f0) := hHeld.2.2.2.1
  have g1 : w2.drew.cell? ⟨w.heap.size, 1, none⟩ = some (.int .i64 p.f1) := hHeld.2.2.2.2.1
  have g2 : w2.drew.cell? ⟨w.heap.size, 2, none⟩ = some (.int .i64 p.f2) := hHeld.2.2.2.2.2.1
  have g3 : w2.drew.cell? ⟨w.heap.size, 3, none⟩ = some (.int .i64 p.f3) := hHeld.2.2.2.2.2.2.1
  have g4 : w2.drew.cell? ⟨w.heap.size, 4, none⟩ = some (.int .i64 p.f4) := hHeld.2.2.2.2.2.2.2.1
  have g5 : w2.drew.cell? ⟨w.heap.size, 5, none⟩ = some (.int .i64 p.f5) := hHeld.2.2.2.2.2.2.2.2.1
  have g6 : w2.drew.cell? ⟨w.heap.size, 6, none⟩ = some (.int .i64 p.f6) := hHeld.2.2.2.2.2.2.2.2.2
  have gk : w2.cell? ⟨w.heap.size, 0, none⟩ = some (.int .i64 p.f0) := g0
  rw [HO.out] at g6
  clear hHeld c0' c1' cq' e0 e1 e2 e3 e4 e5 e6 hw1
  go_wp2
  have y0 := keepX hbw2 x0
  have y1 := keepX hbw2 x1
  have y2 := keepX hbw2 x2
  have y3 := keepX hbw2 x3
  have y4 := keepX hbw2 x4
  have y5 := keepX hbw2 x5
  have y6 := keepX hbw2 x6
  have hS : w2.drew.cell? ⟨w.heap.size, 0, none⟩ = some (.int .i64 p.f0) ∧ w2.drew.cell? ⟨w.heap.size, 1, none⟩ = some (.int .i64 p.f1) ∧ w2.drew.cell? ⟨w.heap.size, 2, none⟩ = some (.int .i64 p.f2) ∧ w2.drew.cell? ⟨w.heap.size, 3, none⟩ = some (.int .i64 p.f3) ∧ w2.drew.cell? ⟨w.heap.size, 4, none⟩ = some (.int .i64 p.f4) ∧ w2.drew.cell? ⟨w.heap.size, 5, none⟩ = some (.int .i64 p.f5) ∧ w2.drew.cell? ⟨w.heap.size, 6, none⟩ = some (.int .i64 (o : Int)) ∧ w2.drew.cell? ⟨B, 1, none⟩ = some (.slice (some ad) n c) ∧ w2.drew.cell? ⟨B, 3 + o, none⟩ = some (.bool false) ∧ w2.drew.cell? (ad.add (o * 7)) = some (.int .i64 u.f0) ∧ w2.drew.cell? ⟨(ad.add (o * 7)).block, (ad.add (o * 7)).off + 1, none⟩ = some (.int .i64 u.f1) ∧ w2.drew.cell? ⟨(ad.add (o * 7)).block, (ad.add (o * 7)).off + 2, none⟩ = some (.int .i64 u.f2) ∧ w2.drew.cell? ⟨(ad.add (o * 7)).block, (ad.add (o * 7)).off + 3, none⟩ = some (.int .i64 u.f3) ∧ w2.drew.cell? ⟨(ad.add (o * 7)).block, (ad.add (o * 7)).off + 4, none⟩ = some (.int .i64 u.f4) ∧ w2.drew.cell? ⟨(ad.add (o * 7)).block, (ad.add (o * 7)).off + 5, none⟩ = some (.int .i64 u.f5) ∧ w2.drew.cell? ⟨(ad.add (o * 7)).block, (ad.add (o * 7)).off + 6, none⟩ = some (.int .i64 u.f6) := ⟨g0, g1, g2, g3, g4, g5, g6, HL8.cell rfl, led_back HL8 o _ hbk, y0, y1, y2, y3, y4, y5, y6⟩
  apply wp_mid (M := fun w' => Below w2.drew.heap.size w2.drew w' ∧ (w'.cell? ⟨w.heap.size, 0, none⟩ = some (.int .i64 p.f0) ∧ w'.cell? ⟨w.heap.size, 1, none⟩ = some (.int .i64 p.f1) ∧ w'.cell? ⟨w.heap.size, 2, none⟩ = some (.int .i64 p.f2) ∧ w'.cell? ⟨w.heap.size, 3, none⟩ = some (.int .i64 p.f3) ∧ w'.cell? ⟨w.heap.size, 4, none⟩ = some (.int .i64 p.f4) ∧ w'.cell? ⟨w.heap.size, 5, none⟩ = some (.int .i64 p.f5) ∧ w'.cell? ⟨w.heap.size, 6, none⟩ = some (.int .i64 (o : Int)) ∧ w'.cell? ⟨B, 1, none⟩ = some (.slice (some ad) n c) ∧ w'.cell? ⟨B, 3 + o, none⟩ = some (.bool false) ∧ w'.cell? (ad.add (o * 7)) = some (.int .i64 u.f0) ∧ w'.cell? ⟨(ad.add (o * 7)).block, (ad.add (o * 7)).off + 1, none⟩ = some (.int .i64 u.f1) ∧ w'.cell? ⟨(ad.add (o * 7)).block, (ad.add (o * 7)).off + 2, none⟩ = some (.int .i64 u.f2) ∧ w'.cell? ⟨(ad.add (o * 7)).block, (ad.add (o * 7)).off + 3, none⟩ = some (.int .i64 u.f3) ∧ w'.cell? ⟨(ad.add (o * 7)).block, (ad.add (o * 7)).off + 4, none⟩ = some (.int .i64 u.f4) ∧ w'.cell? ⟨(ad.add (o * 7)).block, (ad.add (o * 7)).off + 5, none⟩ = some (.int .i64 u.f5) ∧ w'.cell? ⟨(ad.add (o * 7)).block, (ad.add (o * 7)).off + 6, none⟩ = some (.int .i64 u.f6)))
  · go_region_held3 (fun w' => w'.cell? ⟨w.heap.size, 0, none⟩ = some (.int .i64 p.f0) ∧ w'.cell? ⟨w.heap.size, 1, none⟩ = some (.int .i64 p.f1) ∧ w'.cell? ⟨w.heap.size, 2, none⟩ = some (.int .i64 p.f2) ∧ w'.cell? ⟨w.heap.size, 3, none⟩ = some (.int .i64 p.f3) ∧ w'.cell? ⟨w.heap.size, 4, none⟩ = some (.int .i64 p.f4) ∧ w'.cell? ⟨w.heap.size, 5, none⟩ = some (.int .i64 p.f5) ∧ w'.cell? ⟨w.heap.size, 6, none⟩ = some (.int .i64 (o : Int)) ∧ w'.cell? ⟨B, 1, none⟩ = some (.slice (some ad) n c) ∧ w'.cell? ⟨B, 3 + o, none⟩ = some (.bool false) ∧ w'.cell? (ad.add (o * 7)) = some (.int .i64 u.f0) ∧ w'.cell? ⟨(ad.add (o * 7)).block, (ad.add (o * 7)).off + 1, none⟩ = some (.int .i64 u.f1) ∧ w'.cell? ⟨(ad.add (o * 7)).block, (ad.add (o * 7)).off + 2, none⟩ = some (.int .i64 u.f2) ∧ w'.cell? ⟨(ad.add (o * 7)).block, (ad.add (o * 7)).off + 3, none⟩ = some (.int .i64 u.f3) ∧ w'.cell? ⟨(ad.add (o * 7)).block, (ad.add (o * 7)).off + 4, none⟩ = some (.int .i64 u.f4) ∧ w'.cell? ⟨(ad.add (o * 7)).block, (ad.add (o * 7)).off + 5, none⟩ = some (.int .i64 u.f5) ∧ w'.cell? ⟨(ad.add (o * 7)).block, (ad.add (o * 7)).off + 6, none⟩ = some (.int .i64 u.f6)) (first | (with_reducible exact hkd) | (with_reducible exact hS) | fail) (first | (go_at_call 64; (with_reducible refine (back_walk' p u o HO.out false HU.out _).mono ?_); rintro e w3 ⟨rfl, hb3⟩; have hkd : w3.cell? ⟨w.heap.size, 0, none⟩ = some (.int .i64 p.f0) ∧ w3.cell? ⟨w.heap.size, 1, none⟩ = some (.int .i64 p.f1) ∧ w3.cell? ⟨w.heap.size, 2, none⟩ = some (.int .i64 p.f2) ∧ w3.cell? ⟨w.heap.size, 3, none⟩ = some (.int .i64 p.f3) ∧ w3.cell? ⟨w.heap.size, 4, none⟩ = some (.int .i64 p.f4) ∧ w3.cell? ⟨w.heap.size, 5, none⟩ = some (.int .i64 p.f5) ∧ w3.cell? ⟨w.heap.size, 6, none⟩ = some (.int .i64 (o : Int)) ∧ w3.cell? ⟨B, 1, none⟩ = some (.slice (some ad) n c) ∧ w3.cell? ⟨B, 3 + o, none⟩ = some (.bool false) ∧ w3.cell? (ad.add (o * 7)) = some (.int .i64 u.f0) ∧ w3.cell? ⟨(ad.add (o * 7)).block, (ad.add (o * 7)).off + 1, none⟩ = some (.int .i64 u.f1) ∧ w3.cell? ⟨(ad.add (o * 7)).block, (ad.add (o * 7)).off + 2, none⟩ = some (.int .i64 u.f2) ∧ w3.cell? ⟨(ad.add (o * 7)).block, (ad.add (o * 7)).off + 3, none⟩ = some (.int .i64 u.f3) ∧ w3.cell? ⟨(ad.add (o * 7)).block, (ad.add (o * 7)).off + 4, none⟩ = some (.int .i64 u.f4) ∧ w3.cell? ⟨(ad.add (o * 7)).block, (ad.add (o * 7)).off + 5, none⟩ = some (.int .i64 u.f5) ∧ w3.cell? ⟨(ad.add (o * 7)).block, (ad.add (o * 7)).off + 6, none⟩ = some (.int .i64 u.f6) := ⟨keepB hb3 hS.1, keepB hb3 hS.2.1, keepB hb3 hS.2.2.1, keepB hb3 hS.2.2.2.1, keepB hb3 hS.2.2.2.2.1, keepB hb3 hS.2.2.2.2.2.1, keepB hb3 hS.2.2.2.2.2.2.1, keepB hb3 hS.2.2.2.2.2.2.2.1, keepB hb3 hS.2.2.2.2.2.2.2.2.1, keepB hb3 hS.2.2.2.2.2.2.2.2.2.1, keepB hb3 hS.2.2.2.2.2.2.2.2.2.2.1, keepB hb3 hS.2.2.2.2.2.2.2.2.2.2.2.1, keepB hb3 hS.2.2.2.2.2.2.2.2.2.2.2.2.1, keepB hb3 hS.2.2.2.2.2.2.2.2.2.2.2.2.2.1, keepB hb3 hS.2.2.2.2.2.2.2.2.2.2.2.2.2.2.1, keepB hb3 hS.2.2.2.2.2.2.2.2.2.2.2.2.2.2.2⟩) | fail)
    all_goals exact ⟨rfl, rfl, hb3, hkd⟩
  rintro w3 ⟨hb3, hHeld⟩
  clear hS
  generalize w2.drew = wd2 at *
  go_wp2
  go_ret
  exact ⟨rfl, Below.trans hbw2 (hb3.mono hbw2.size)⟩
end Go.Proofs.YtooogaogbffjfaaDoor.Ext
end
