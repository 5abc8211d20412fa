import Derived.Test.YtooogaogbffjfaaMBookKeepsai
import Derived.Test.YtooogaogbffjfaaMBookKeepsag
import Derived.BigQuiet
import Derived.StillTailTactics
/-
  Texts of this claim, one behind the other: what they prove stands above each.
-/
section
/-
  (*ledger).takes where a posting is taken back.
-/
set_option linter.unusedVariables false
set_option linter.unusedSimpArgs false
namespace Go.Proofs.Ytooogaogbffjfaa.Ext
open Go.RowKit Go.Proofs.YtooogaogbffjfaaW.PrintWords Go.Proofs.YtooogaogbffjfaaW.PrintLast Go.Proofs.YtooogaogbffjfaaW.PrintMore Go.Proofs.Ytooogaogbffjfaa.PK Go.Proofs.Ytooogaogbffjfaa.Bk
attribute [local go_sem] Oper.semAt_some
set_option maxRecDepth 100000 in
set_option maxHeartbeats 4000000 in
/-- H: it takes a posting back -/
theorem takes_back (ws : World) (B : Nat) (acc clo : Int) (ad : Addr) (c n m o : Nat) (hnm : n = m + 1) (bk : List Bool) (ps : List S27) (p q : S27) (w : World) (hbel : Below ws.heap.size ws w) (hBb : ws.heap.size ≤ B) (hB : Led w B acc (.slice (some ad) n c) clo bk) (hR : Kd.R k27 27 w ws.heap.size (fun _ => True) (.slice (some ad) n c) ps) (hps : ps.length ≤ 1000) (hneB : some B ≠ (Value.slice (some ad) n c).ownBlock) (hn : n < 200) (hf : formedB acc p = true) (hq : w.cell? ⟨(ad.add (m * 7)).block, (ad.add (m * 7)).off + 1, none⟩ = some (.int .i64 q.f1)) (hday : ¬ p.f1 < q.f1) (hk : p.f0 = 3) (ho : p.f6 = (o : Int)) (hon : o < n) (hbk : bk[o]? = some false) (hu : isBackB p (rd_T27 ps (o : Int)) = true) :
    Calls Try.prog 38 #[.pointer (some ⟨B, 0, none⟩), pv p] w fun e w' => e = .returned (.bool true) ∧ Below ws.heap.size ws w' ∧ ∃ v', Led w' B acc v' clo (bk.set o true) ∧ Kd.R k27 27 w' ws.heap.size (fun _ => True) v' (ps ++ [p]) ∧ some B ≠ v'.ownBlock ∧ (∀ (k : Nat) (t : TypeId) (C : List Value), Blk w k t C → k ≠ B → some k ≠ (Value.slice (some ad) n c).ownBlock → Blk w' k t C) := by
  have c0 : w.cell? ⟨B, 0, none⟩ = some (.int .i64 acc) := hB.cell rfl
  have c1 : w.cell? ⟨B, 1, none⟩ = some (.slice (some ad) n c) := hB.cell rfl
  have e0 := box_cells w p 0 _ rfl 27
  have e1 := box_cells w p 1 _ rfl 27
  have e2 := box_cells w p 2 _ rfl 27
  have e3 := box_cells w p 3 _ rfl 27
  have e4 := box_cells w p 4 _ rfl 27
  have e5 := box_cells w p 5 _ rfl 27
  have e6 := box_cells w p 6 _ rfl 27
  have c0' := c_old (o := .cells (pcells p).toArray 27) c0
  have c1' := c_old (o := .cells (pcells p).toArray 27) c1
  have cq' := c_old (o := .cells (pcells p).toArray 27) hq
  have hd : decide ((200 : Int) ≤ (n : Int)) = false := decide_eq_false (by omega)
  have hp : decide ((0 : Int) < (n : Int)) = true := decide_eq_true (by omega)
  have hp2 : decide (0 < n) = true := decide_eq_true (by omega)
  have hi0 : (0 : Int) ≤ (m : Int) := by omega
  have hi1 : (m : Int) < (n : Int) := by omega
  have hw : IntKind.i64.wrap ((n : Int) - 1) = (m : Int) := by rw [IntWalk.i64_in _ (by omega)]; omega
  have hlt : decide (p.f1 < q.f1) = false := decide_eq_false hday
  have hk3 : (p.f0 == 3) = true := beq_iff_eq.2 hk
  have HNX := Lib.hid (show some w.heap.size ≠ (Value.slice (some ad) n c).ownBlock from fun e => Nat.lt_irrefl _ (Kd.R_lt hR _ e.symm))
  have HNB := Lib.hid hneB
  have HPS := Lib.hid hps
  have HO := Lib.hid ho
  have HU := Lib.hid hu
  clear hu
  have HXB := Lib.hid (show w.heap.size ≠ B from fun e => by have := hB.lt; omega)
  obtain ⟨hnl, hnc, hC⟩ := Kd.R_reads' hR
  have honl : (o : Int) < ((ps.length : Nat) : Int) := by omega
  obtain ⟨ad', ead, x0, x1, x2, x3, x4, x5, x6⟩ := at_T27 hC (o : Int) (by omega) honl
  obtain rfl := Option.some.inj ead
  rw [Int.toNat_natCast] at x0 x1 x2 x3 x4 x5 x6
  generalize rd_T27 ps (o : Int) = u at *
  have hx1 : decide ((n : Int) ≤ (o : Int)) = false := decide_eq_false (by omega)
  have hx2 : decide (n ≤ o) = false := decide_eq_false (by omega)
  have hx3 : (o : Int) < (n : Int) := by omega
  have hx4 : (0 : Int) ≤ (o : Int) := by omega
  have hx5 : (o : Int) < 200 := by omega
  have hx6 : o < 200 := by omega
  have hx7 : o < n := by omega
  clear hnl hnc hC honl
  unfold pv
  unfold pcells at c0' c1' cq' e0 e1 e2 e3 e4 e5 e6
  clear c0 c1 hq hnm hneB hps hk hday ho
  go_enter Try.func38, Try.ntmps38
  go_wp2
  generalize hw1 : w.alloc (.cells [Value.int .i64 p.f0, .int .i64 p.f1, .int .i64 p.f2, .int .i64 p.f3, .int .i64 p.f4, .int .i64 p.f5, .int .i64 p.f6].toArray 27) = w1 at *
  have hbw : Below w.heap.size w w1.drew := below_drew1 (by rw [← hw1]; exact (Below.refl _ _).alloc (Nat.le_refl _) _)
  have hS : w1.drew.cell? ⟨B, 0, none⟩ = some (.int .i64 acc) ∧ w1.drew.cell? ⟨B, 1, none⟩ = some (.slice (some ad) n c) ∧ w1.drew.cell? ⟨(ad.add (m * 7)).block, (ad.add (m * 7)).off + 1, none⟩ = some (.int .i64 q.f1) ∧ w1.drew.cell? ⟨w.heap.size, 0, none⟩ = some (.int .i64 p.f0) ∧ w1.drew.cell? ⟨w.heap.size, 1, none⟩ = some (.int .i64 p.f1) ∧ w1.drew.cell? ⟨w.heap.size, 2, none⟩ = some (.int .i64 p.f2) ∧ w1.drew.cell? ⟨w.heap.size, 3, none⟩ = some (.int .i64 p.f3) ∧ w1.drew.cell? ⟨w.heap.size, 4, none⟩ = some (.int .i64 p.f4) ∧ w1.drew.cell? ⟨w.heap.size, 5, none⟩ = some (.int .i64 p.f5) ∧ w1.drew.cell? ⟨w.heap.size, 6, none⟩ = some (.int .i64 p.f6) := ⟨c0', c1', cq', e0, e1, e2, e3, e4, e5, e6⟩
  apply wp_mid (M := fun w' => Below w.heap.size w w' ∧ (w'.cell? ⟨B, 0, none⟩ = some (.int .i64 acc) ∧ w'.cell? ⟨B, 1, none⟩ = some (.slice (some ad) n c) ∧ w'.cell? ⟨(ad.add (m * 7)).block, (ad.add (m * 7)).off + 1, none⟩ = some (.int .i64 q.f1) ∧ w'.cell? ⟨w.heap.size, 0, none⟩ = some (.int .i64 p.f0) ∧ w'.cell? ⟨w.heap.size, 1, none⟩ = some (.int .i64 p.f1) ∧ w'.cell? ⟨w.heap.size, 2, none⟩ = some (.int .i64 p.f2) ∧ w'.cell? ⟨w.heap.size, 3, none⟩ = some (.int .i64 p.f3) ∧ w'.cell? ⟨w.heap.size, 4, none⟩ = some (.int .i64 p.f4) ∧ w'.cell? ⟨w.heap.size, 5, none⟩ = some (.int .i64 p.f5) ∧ w'.cell? ⟨w.heap.size, 6, none⟩ = some (.int .i64 p.f6)))
  · go_region_held3 (fun w' => w'.cell? ⟨B, 0, none⟩ = some (.int .i64 acc) ∧ w'.cell? ⟨B, 1, none⟩ = some (.slice (some ad) n c) ∧ w'.cell? ⟨(ad.add (m * 7)).block, (ad.add (m * 7)).off + 1, none⟩ = some (.int .i64 q.f1) ∧ w'.cell? ⟨w.heap.size, 0, none⟩ = some (.int .i64 p.f0) ∧ w'.cell? ⟨w.heap.size, 1, none⟩ = some (.int .i64 p.f1) ∧ w'.cell? ⟨w.heap.size, 2, none⟩ = some (.int .i64 p.f2) ∧ w'.cell? ⟨w.heap.size, 3, none⟩ = some (.int .i64 p.f3) ∧ w'.cell? ⟨w.heap.size, 4, none⟩ = some (.int .i64 p.f4) ∧ w'.cell? ⟨w.heap.size, 5, none⟩ = some (.int .i64 p.f5) ∧ w'.cell? ⟨w.heap.size, 6, none⟩ = some (.int .i64 p.f6)) (first | (with_reducible exact hkd) | (with_reducible exact hS) | fail) (first | (go_at_call 40; (with_reducible refine (formed_walk' acc p true hf _).mono ?_); rintro e w2 ⟨rfl, hb1⟩; have hkd : w2.cell? ⟨B, 0, none⟩ = some (.int .i64 acc) ∧ w2.cell? ⟨B, 1, none⟩ = some (.slice (some ad) n c) ∧ w2.cell? ⟨(ad.add (m * 7)).block, (ad.add (m * 7)).off + 1, none⟩ = some (.int .i64 q.f1) ∧ w2.cell? ⟨w.heap.size, 0, none⟩ = some (.int .i64 p.f0) ∧ w2.cell? ⟨w.heap.size, 1, none⟩ = some (.int .i64 p.f1) ∧ w2.cell? ⟨w.heap.size, 2, none⟩ = some (.int .i64 p.f2) ∧ w2.cell? ⟨w.heap.size, 3, none⟩ = some (.int .i64 p.f3) ∧ w2.cell? ⟨w.heap.size, 4, none⟩ = some (.int .i64 p.f4) ∧ w2.cell? ⟨w.heap.size, 5, none⟩ = some (.int .i64 p.f5) ∧ w2.cell? ⟨w.heap.size, 6, none⟩ = some (.int .i64 p.f6) := ⟨keepB hb1 hS.1, keepB hb1 hS.2.1, keepB hb1 hS.2.2.1, keepB hb1 hS.2.2.2.1, keepB hb1 hS.2.2.2.2.1, keepB hb1 hS.2.2.2.2.2.1, keepB hb1 hS.2.2.2.2.2.2.1, keepB hb1 hS.2.2.2.2.2.2.2.1, keepB hb1 hS.2.2.2.2.2.2.2.2.1, keepB hb1 hS.2.2.2.2.2.2.2.2.2⟩) | fail)
    all_goals exact ⟨rfl, rfl, Below.trans hbw (hb1.mono hbw.size), hkd⟩
  rintro w2 ⟨hbx, hHeld⟩
  clear hS
  have hbw2 : Below w.heap.size w w2.drew := below_drew1 (hbx)
  have HB8 : Below ws.heap.size ws w2.drew := Below.trans hbel (hbw2.mono hbel.size)
  have HR8 := Kd.R_below hR hbw2
  have HL8 := hB.belowS hbw2
  have g0 : w2.drew.cell? ⟨w.heap.size, 0, none⟩ = some (.int .i64 p.f0) := hHeld.2.2.2.1
  have g1 : w2.drew.cell? ⟨w.heap.size, 1, none⟩ = some (.int .i64 p.f1) := hHeld.2.2.2.2.1
  have g2 : w2.drew.cell? ⟨w.heap.size, 2, none⟩ = some (.int .i64 p.f2) := hHeld.2.2.2.2.2.1
  have g3 : w2.drew.cell? ⟨w.heap.size, 3, none⟩ = some (.int .i64 p.f3) := hHeld.2.2.2.2.2.2.1
  have g4 : w2.drew.cell? ⟨w.heap.size, 4, none⟩ = some (.int .i64 p.f4) := hHeld.2.2.2.2.2.2.2.1
  have g5 : w2.drew.cell? ⟨w.heap.size, 5, none⟩ = some (.int .i64 p.f5) := hHeld.2.2.2.2.2.2.2.2.1
  have g6 : w2.drew.cell? ⟨w.heap.size, 6, none⟩ = some (.int .i64 p.f6) := hHeld.2.2.2.2.2.2.2.2.2
  have gk : w2.cell? ⟨w.heap.size, 0, none⟩ = some (.int .i64 p.f0) := g0
  rw [HO.out] at g6
  clear hHeld c0' c1' cq' e0 e1 e2 e3 e4 e5 e6 hw1
  go_wp2
  have y0 := keepX hbw2 x0
  have y1 := keepX hbw2 x1
  have y2 := keepX hbw2 x2
  have y3 := keepX hbw2 x3
  have y4 := keepX hbw2 x4
  have y5 := keepX hbw2 x5
  have y6 := keepX hbw2 x6
  have hS : w2.drew.cell? ⟨w.heap.size, 0, none⟩ = some (.int .i64 p.f0) ∧ w2.drew.cell? ⟨w.heap.size, 1, none⟩ = some (.int .i64 p.f1) ∧ w2.drew.cell? ⟨w.heap.size, 2, none⟩ = some (.int .i64 p.f2) ∧ w2.drew.cell? ⟨w.heap.size, 3, none⟩ = some (.int .i64 p.f3) ∧ w2.drew.cell? ⟨w.heap.size, 4, none⟩ = some (.int .i64 p.f4) ∧ w2.drew.cell? ⟨w.heap.size, 5, none⟩ = some (.int .i64 p.f5) ∧ w2.drew.cell? ⟨w.heap.size, 6, none⟩ = some (.int .i64 (o : Int)) ∧ w2.drew.cell? ⟨B, 1, none⟩ = some (.slice (some ad) n c) ∧ w2.drew.cell? ⟨B, 3 + o, none⟩ = some (.bool false) ∧ w2.drew.cell? (ad.add (o * 7)) = some (.int .i64 u.f0) ∧ w2.drew.cell? ⟨(ad.add (o * 7)).block, (ad.add (o * 7)).off + 1, none⟩ = some (.int .i64 u.f1) ∧ w2.drew.cell? ⟨(ad.add (o * 7)).block, (ad.add (o * 7)).off + 2, none⟩ = some (.int .i64 u.f2) ∧ w2.drew.cell? ⟨(ad.add (o * 7)).block, (ad.add (o * 7)).off + 3, none⟩ = some (.int .i64 u.f3) ∧ w2.drew.cell? ⟨(ad.add (o * 7)).block, (ad.add (o * 7)).off + 4, none⟩ = some (.int .i64 u.f4) ∧ w2.drew.cell? ⟨(ad.add (o * 7)).block, (ad.add (o * 7)).off + 5, none⟩ = some (.int .i64 u.f5) ∧ w2.drew.cell? ⟨(ad.add (o * 7)).block, (ad.add (o * 7)).off + 6, none⟩ = some (.int .i64 u.f6) := ⟨g0, g1, g2, g3, g4, g5, g6, HL8.cell rfl, led_back HL8 o _ hbk, y0, y1, y2, y3, y4, y5, y6⟩
  apply wp_mid (M := fun w' => Below w2.drew.heap.size w2.drew w' ∧ (w'.cell? ⟨w.heap.size, 0, none⟩ = some (.int .i64 p.f0) ∧ w'.cell? ⟨w.heap.size, 1, none⟩ = some (.int .i64 p.f1) ∧ w'.cell? ⟨w.heap.size, 2, none⟩ = some (.int .i64 p.f2) ∧ w'.cell? ⟨w.heap.size, 3, none⟩ = some (.int .i64 p.f3) ∧ w'.cell? ⟨w.heap.size, 4, none⟩ = some (.int .i64 p.f4) ∧ w'.cell? ⟨w.heap.size, 5, none⟩ = some (.int .i64 p.f5) ∧ w'.cell? ⟨w.heap.size, 6, none⟩ = some (.int .i64 (o : Int)) ∧ w'.cell? ⟨B, 1, none⟩ = some (.slice (some ad) n c) ∧ w'.cell? ⟨B, 3 + o, none⟩ = some (.bool false) ∧ w'.cell? (ad.add (o * 7)) = some (.int .i64 u.f0) ∧ w'.cell? ⟨(ad.add (o * 7)).block, (ad.add (o * 7)).off + 1, none⟩ = some (.int .i64 u.f1) ∧ w'.cell? ⟨(ad.add (o * 7)).block, (ad.add (o * 7)).off + 2, none⟩ = some (.int .i64 u.f2) ∧ w'.cell? ⟨(ad.add (o * 7)).block, (ad.add (o * 7)).off + 3, none⟩ = some (.int .i64 u.f3) ∧ w'.cell? ⟨(ad.add (o * 7)).block, (ad.add (o * 7)).off + 4, none⟩ = some (.int .i64 u.f4) ∧ w'.cell? ⟨(ad.add (o * 7)).block, (ad.add (o * 7)).off + 5, none⟩ = some (.int .i64 u.f5) ∧ w'.cell? ⟨(ad.add (o * 7)).block, (ad.add (o * 7)).off + 6, none⟩ = some (.int .i64 u.f6)))
  · go_region_held3 (fun w' => w'.cell? ⟨w.heap.size, 0, none⟩ = some (.int .i64 p.f0) ∧ w'.cell? ⟨w.heap.size, 1, none⟩ = some (.int .i64 p.f1) ∧ w'.cell? ⟨w.heap.size, 2, none⟩ = some (.int .i64 p.f2) ∧ w'.cell? ⟨w.heap.size, 3, none⟩ = some (.int .i64 p.f3) ∧ w'.cell? ⟨w.heap.size, 4, none⟩ = some (.int .i64 p.f4) ∧ w'.cell? ⟨w.heap.size, 5, none⟩ = some (.int .i64 p.f5) ∧ w'.cell? ⟨w.heap.size, 6, none⟩ = some (.int .i64 (o : Int)) ∧ w'.cell? ⟨B, 1, none⟩ = some (.slice (some ad) n c) ∧ w'.cell? ⟨B, 3 + o, none⟩ = some (.bool false) ∧ w'.cell? (ad.add (o * 7)) = some (.int .i64 u.f0) ∧ w'.cell? ⟨(ad.add (o * 7)).block, (ad.add (o * 7)).off + 1, none⟩ = some (.int .i64 u.f1) ∧ w'.cell? ⟨(ad.add (o * 7)).block, (ad.add (o * 7)).off + 2, none⟩ = some (.int .i64 u.f2) ∧ w'.cell? ⟨(ad.add (o * 7)).block, (ad.add (o * 7)).off + 3, none⟩ = some (.int .i64 u.f3) ∧ w'.cell? ⟨(ad.add (o * 7)).block, (ad.add (o * 7)).off + 4, none⟩ = some (.int .i64 u.f4) ∧ w'.cell? ⟨(ad.add (o * 7)).block, (ad.add (o * 7)).off + 5, none⟩ = some (.int .i64 u.f5) ∧ w'.cell? ⟨(ad.add (o * 7)).block, (ad.add (o * 7)).off + 6, none⟩ = some (.int .i64 u.f6)) (first | (with_reducible exact hkd) | (with_reducible exact hS) | fail) (first | (go_at_call 41; (with_reducible refine (back_walk' p u o HO.out true HU.out _).mono ?_); rintro e w3 ⟨rfl, hb3⟩; have hkd : w3.cell? ⟨w.heap.size, 0, none⟩ = some (.int .i64 p.f0) ∧ w3.cell? ⟨w.heap.size, 1, none⟩ = some (.int .i64 p.f1) ∧ w3.cell? ⟨w.heap.size, 2, none⟩ = some (.int .i64 p.f2) ∧ w3.cell? ⟨w.heap.size, 3, none⟩ = some (.int .i64 p.f3) ∧ w3.cell? ⟨w.heap.size, 4, none⟩ = some (.int .i64 p.f4) ∧ w3.cell? ⟨w.heap.size, 5, none⟩ = some (.int .i64 p.f5) ∧ w3.cell? ⟨w.heap.size, 6, none⟩ = some (.int .i64 (o : Int)) ∧ w3.cell? ⟨B, 1, none⟩ = some (.slice (some ad) n c) ∧ w3.cell? ⟨B, 3 + o, none⟩ = some (.bool false) ∧ w3.cell? (ad.add (o * 7)) = some (.int .i64 u.f0) ∧ w3.cell? ⟨(ad.add (o * 7)).block, (ad.add (o * 7)).off + 1, none⟩ = some (.int .i64 u.f1) ∧ w3.cell? ⟨(ad.add (o * 7)).block, (ad.add (o * 7)).off + 2, none⟩ = some (.int .i64 u.f2) ∧ w3.cell? ⟨(ad.add (o * 7)).block, (ad.add (o * 7)).off + 3, none⟩ = some (.int .i64 u.f3) ∧ w3.cell? ⟨(ad.add (o * 7)).block, (ad.add (o * 7)).off + 4, none⟩ = some (.int .i64 u.f4) ∧ w3.cell? ⟨(ad.add (o * 7)).block, (ad.add (o * 7)).off + 5, none⟩ = some (.int .i64 u.f5) ∧ w3.cell? ⟨(ad.add (o * 7)).block, (ad.add (o * 7)).off + 6, none⟩ = some (.int .i64 u.f6) := ⟨keepB hb3 hS.1, keepB hb3 hS.2.1, keepB hb3 hS.2.2.1, keepB hb3 hS.2.2.2.1, keepB hb3 hS.2.2.2.2.1, keepB hb3 hS.2.2.2.2.2.1, keepB hb3 hS.2.2.2.2.2.2.1, keepB hb3 hS.2.2.2.2.2.2.2.1, keepB hb3 hS.2.2.2.2.2.2.2.2.1, keepB hb3 hS.2.2.2.2.2.2.2.2.2.1, keepB hb3 hS.2.2.2.2.2.2.2.2.2.2.1, keepB hb3 hS.2.2.2.2.2.2.2.2.2.2.2.1, keepB hb3 hS.2.2.2.2.2.2.2.2.2.2.2.2.1, keepB hb3 hS.2.2.2.2.2.2.2.2.2.2.2.2.2.1, keepB hb3 hS.2.2.2.2.2.2.2.2.2.2.2.2.2.2.1, keepB hb3 hS.2.2.2.2.2.2.2.2.2.2.2.2.2.2.2⟩) | fail)
    all_goals exact ⟨rfl, rfl, hb3, hkd⟩
  rintro w3 ⟨hb3, hHeld⟩
  clear hS
  generalize w2.drew = wd2 at *
  have hb3' : Below wd2.heap.size wd2 w3.drew := below_drew1 hb3
  have HB9 : Below ws.heap.size ws w3.drew := Below.trans HB8 (hb3'.mono HB8.size)
  have HR9 := Kd.R_below HR8 hb3'
  have HL9 : Led w3.drew B acc (.slice (some ad) n c) clo bk := Blk.belowS HL8 hb3'
  have g0 : w3.drew.cell? ⟨w.heap.size, 0, none⟩ = some (.int .i64 p.f0) := hHeld.1
  have g1 : w3.drew.cell? ⟨w.heap.size, 1, none⟩ = some (.int .i64 p.f1) := hHeld.2.1
  have g2 : w3.drew.cell? ⟨w.heap.size, 2, none⟩ = some (.int .i64 p.f2) := hHeld.2.2.1
  have g3 : w3.drew.cell? ⟨w.heap.size, 3, none⟩ = some (.int .i64 p.f3) := hHeld.2.2.2.1
  have g4 : w3.drew.cell? ⟨w.heap.size, 4, none⟩ = some (.int .i64 p.f4) := hHeld.2.2.2.2.1
  have g5 : w3.drew.cell? ⟨w.heap.size, 5, none⟩ = some (.int .i64 p.f5) := hHeld.2.2.2.2.2.1
  have g6 : w3.drew.cell? ⟨w.heap.size, 6, none⟩ = some (.int .i64 (o : Int)) := hHeld.2.2.2.2.2.2.1
  have hcb := led_back HL9 o _ hbk
  have hfb : w3.drew.frozen? ⟨B, 3 + o, none⟩ = false := Blk.free HL9 _
  clear hHeld y0 y1 y2 y3 y4 y5 y6 gk HB8 HR8 HL8
  go_wp2
  refine start_ (n := 7) (S := fun w' => w'.cell? ⟨w.heap.size, 6, none⟩ = some (.int .i64 (o : Int))) (ds := [6]) #[false, false, false, false, false, false, false] (by kernel_rfl) rfl rfl (g6) (fun hHeld => ?_)
  generalize w3.drew = wd3 at *
  refine pure_ (i := 0) (N := some 73) (v := ?_) (a' := ?_) #[true, false, false, false, false, false, false] rfl rfl (by kernel_rfl) (fun _ _ _ h => h) (Or.inl ⟨by rfl, ?_⟩) ?_ ?_
  rotate_left
  · intro w'
    go_simp
    with_reducible rfl
  rotate_left
  · simp only [Act.put, List.setIfInBounds_toArray, List.set_cons_zero, List.set_cons_succ, i64_w, i32_w]
    rfl
  refine pure_ (i := 1) (N := some 74) (v := ?_) (a' := ?_) #[true, true, false, false, false, false, false] rfl rfl (by kernel_rfl) (fun _ _ _ h => h) (Or.inl ⟨by rfl, ?_⟩) ?_ ?_
  rotate_left
  · intro w'
    go_simp
    with_reducible rfl
  rotate_left
  · simp only [Act.put, List.setIfInBounds_toArray, List.set_cons_zero, List.set_cons_succ, i64_w, i32_w]
    rfl
  refine pure_ (i := 3) (N := some 76) (v := ?_) (a' := ?_) #[true, true, false, true, false, false, false] rfl rfl (by kernel_rfl) (fun _ _ _ h => h) (Or.inl ⟨by rfl, ?_⟩) ?_ ?_
  rotate_left
  · intro w'
    go_simp
    with_reducible rfl
  rotate_left
  · simp only [Act.put, List.setIfInBounds_toArray, List.set_cons_zero, List.set_cons_succ, i64_w, i32_w]
    rfl
  refine pure_ (i := 4) (N := some 77) (v := ?_) (a' := ?_) #[true, true, false, true, true, false, false] rfl rfl (by kernel_rfl) (fun _ _ _ h => h) (Or.inl ⟨by rfl, ?_⟩) ?_ ?_
  rotate_left
  · intro w'
    go_simp
    with_reducible rfl
  rotate_left
  · simp only [Act.put, List.setIfInBounds_toArray, List.set_cons_zero, List.set_cons_succ, i64_w, i32_w]
    rfl
  refine take_ (i := 2) (N := some 75) (v := ?_) (a' := ?_) #[true, true, true, true, true, false, false] rfl rfl (by kernel_rfl) (fun _ _ _ h => h) (Or.inl ⟨by rfl, ?_⟩) hHeld ?_ ?_
  rotate_left
  · intro w' s0
    go_simp
    with_reducible rfl
  rotate_left
  · simp only [Act.put, List.setIfInBounds_toArray, List.set_cons_zero, List.set_cons_succ, i64_w, i32_w]
    rfl
  refine pure_ (i := 5) (N := some 78) (v := ?_) (a' := ?_) #[true, true, true, true, true, true, false] rfl rfl (by kernel_rfl) (fun _ _ _ h => h) (Or.inl ⟨by rfl, ?_⟩) ?_ ?_
  rotate_left
  · intro w'
    go_simp
    with_reducible rfl
  rotate_left
  · simp only [Act.put, List.setIfInBounds_toArray, List.set_cons_zero, List.set_cons_succ, i64_w, i32_w]
    rfl
  refine last_ (i := 6) (N := none) #[true, true, true, true, true, true, true] rfl rfl (by kernel_rfl) (by decide) (fun K hK => ?_)
  refine skip_ (w1 := ?_) (by rfl) rfl ?_ ?_
  rotate_left
  · go_simp
    rfl
  refine hK.out _ _ ?_
  clear hK K
  refine done_ (by kernel_rfl) ?_
  have HL10 := led_set HL9 o
  have HR10 := Kd.R_set HR9 (Blk.heap HL9) (by decide) (3 + o) (.bool true)
  have HB10 := HB9.setCell (p := ⟨B, 3 + o, none⟩) hBb (.bool true)
  have HFR : ∀ (k : Nat) (t : TypeId) (C : List Value), Blk w k t C → k ≠ B → Blk (wd3.setCell ⟨B, 3 + o, none⟩ (.bool true)).drew k t C := fun k t C hk hkB => (((hk.belowS hbw2).belowS hb3').set_other ⟨B, 3 + o, none⟩ hkB _).drew
  replace g0 := far_set (b := ⟨B, 3 + o, none⟩) (v := .bool true) HXB.out g0
  replace g1 := far_set (b := ⟨B, 3 + o, none⟩) (v := .bool true) HXB.out g1
  replace g2 := far_set (b := ⟨B, 3 + o, none⟩) (v := .bool true) HXB.out g2
  replace g3 := far_set (b := ⟨B, 3 + o, none⟩) (v := .bool true) HXB.out g3
  replace g4 := far_set (b := ⟨B, 3 + o, none⟩) (v := .bool true) HXB.out g4
  replace g5 := far_set (b := ⟨B, 3 + o, none⟩) (v := .bool true) HXB.out g5
  replace g6 := far_set (b := ⟨B, 3 + o, none⟩) (v := .bool true) HXB.out g6
  generalize wd3.setCell ⟨B, 3 + o, none⟩ (.bool true) = w5 at *
  have HB8 : Below ws.heap.size ws w5.drew := below_drew1 HB10
  have HR8 := Kd.R_drew HR10
  have HL8 : Led w5.drew B acc (.slice (some ad) n c) clo (bk.set o true) := HL10
  replace g0 : w5.drew.cell? ⟨w.heap.size, 0, none⟩ = some (.int .i64 p.f0) := g0
  replace g1 : w5.drew.cell? ⟨w.heap.size, 1, none⟩ = some (.int .i64 p.f1) := g1
  replace g2 : w5.drew.cell? ⟨w.heap.size, 2, none⟩ = some (.int .i64 p.f2) := g2
  replace g3 : w5.drew.cell? ⟨w.heap.size, 3, none⟩ = some (.int .i64 p.f3) := g3
  replace g4 : w5.drew.cell? ⟨w.heap.size, 4, none⟩ = some (.int .i64 p.f4) := g4
  replace g5 : w5.drew.cell? ⟨w.heap.size, 5, none⟩ = some (.int .i64 p.f5) := g5
  replace g6 : w5.drew.cell? ⟨w.heap.size, 6, none⟩ = some (.int .i64 (o : Int)) := g6
  rw [← HO.out] at g6
  clear HL10 HR10 HB10 HB9 HR9 HL9 hcb hfb hbk
  go_wp2
  refine start_ (n := 13) (S := fun w' => w'.cell? ⟨B, 1, none⟩ = some (.slice (some ad) n c) ∧ w'.cell? ⟨w.heap.size, 0, none⟩ = some (.int .i64 p.f0) ∧ w'.cell? ⟨w.heap.size, 1, none⟩ = some (.int .i64 p.f1) ∧ w'.cell? ⟨w.heap.size, 2, none⟩ = some (.int .i64 p.f2) ∧ w'.cell? ⟨w.heap.size, 3, none⟩ = some (.int .i64 p.f3) ∧ w'.cell? ⟨w.heap.size, 4, none⟩ = some (.int .i64 p.f4) ∧ w'.cell? ⟨w.heap.size, 5, none⟩ = some (.int .i64 p.f5) ∧ w'.cell? ⟨w.heap.size, 6, none⟩ = some (.int .i64 p.f6)) (ds := [12]) #[false, false, false, false, false, false, false, false, false, false, false, false, false] (by kernel_rfl) rfl rfl ⟨HL8.cell rfl, g0, g1, g2, g3, g4, g5, g6⟩ (fun hHeld => ?_)
  generalize w5.drew = wd5 at *
  refine pure_ (i := 0) (N := some 79) (v := ?_) (a' := ?_) #[true, false, false, false, false, false, false, false, false, false, false, false, false] rfl rfl (by kernel_rfl) (fun _ _ _ h => h) (Or.inl ⟨by rfl, ?_⟩) ?_ ?_
  rotate_left
  · intro w'
    go_simp
    with_reducible rfl
  rotate_left
  · simp only [Act.put, List.setIfInBounds_toArray, List.set_cons_zero, List.set_cons_succ, i64_w, i32_w]
    rfl
  refine pure_ (i := 1) (N := some 80) (v := ?_) (a' := ?_) #[true, true, false, false, false, false, false, false, false, false, false, false, false] rfl rfl (by kernel_rfl) (fun _ _ _ h => h) (Or.inl ⟨by rfl, ?_⟩) ?_ ?_
  rotate_left
  · intro w'
    go_simp
    with_reducible rfl
  rotate_left
  · simp only [Act.put, List.setIfInBounds_toArray, List.set_cons_zero, List.set_cons_succ, i64_w, i32_w]
    rfl
  refine pure_ (i := 2) (N := some 81) (v := ?_) (a' := ?_) #[true, true, true, false, false, false, false, false, false, false, false, false, false] rfl rfl (by kernel_rfl) (fun _ _ _ h => h) (Or.inl ⟨by rfl, ?_⟩) ?_ ?_
  rotate_left
  · intro w'
    go_simp
    with_reducible rfl
  rotate_left
  · simp only [Act.put, List.setIfInBounds_toArray, List.set_cons_zero, List.set_cons_succ, i64_w, i32_w]
    rfl
  refine pure_ (i := 3) (N := some 82) (v := ?_) (a' := ?_) #[true, true, true, true, false, false, false, false, false, false, false, false, false] rfl rfl (by kernel_rfl) (fun _ _ _ h => h) (Or.inl ⟨by rfl, ?_⟩) ?_ ?_
  rotate_left
  · intro w'
    go_simp
    with_reducible rfl
  rotate_left
  · simp only [Act.put, List.setIfInBounds_toArray, List.set_cons_zero, List.set_cons_succ, i64_w, i32_w]
    rfl
  refine pure_ (i := 4) (N := some 83) (v := ?_) (a' := ?_) #[true, true, true, true, true, false, false, false, false, false, false, false, false] rfl rfl (by kernel_rfl) (fun _ _ _ h => h) (Or.inl ⟨by rfl, ?_⟩) ?_ ?_
  rotate_left
  · intro w'
    go_simp
    with_reducible rfl
  rotate_left
  · simp only [Act.put, List.setIfInBounds_toArray, List.set_cons_zero, List.set_cons_succ, i64_w, i32_w]
    rfl
  refine take_ (i := 5) (N := some 84) (v := ?_) (a' := ?_) #[true, true, true, true, true, true, false, false, false, false, false, false, false] rfl rfl (by kernel_rfl) (fun _ _ _ h => h) (Or.inl ⟨by rfl, ?_⟩) hHeld ?_ ?_
  rotate_left
  · rintro w' ⟨s0, s1, s2, s3, s4, s5, s6, s7⟩
    go_simp
    with_reducible rfl
  rotate_left
  · simp only [Act.put, List.setIfInBounds_toArray, List.set_cons_zero, List.set_cons_succ, i64_w, i32_w]
    rfl
  refine take_ (i := 6) (N := some 85) (v := ?_) (a' := ?_) #[true, true, true, true, true, true, true, false, false, false, false, false, false] rfl rfl (by kernel_rfl) (fun _ _ _ h => h) (Or.inl ⟨by rfl, ?_⟩) hHeld ?_ ?_
  rotate_left
  · rintro w' ⟨s0, s1, s2, s3, s4, s5, s6, s7⟩
    go_simp
    with_reducible rfl
  rotate_left
  · simp only [Act.put, List.setIfInBounds_toArray, List.set_cons_zero, List.set_cons_succ, i64_w, i32_w]
    rfl
  refine one_ (i := 7) (N := some 86) #[true, true, true, true, true, true, true, true, false, false, false, false, false] rfl rfl (by kernel_rfl) (by decide) (fun K hK => ?_)
  refine Kd.R_lit_step k27 (w0 := ws) ws.heap.size 27 (by rfl) (N := 86) rfl (xs := [p]) (inner := pcells p) (ok := fun _ => True) (okp := fun _ => True) ?hr ?hp (fun _ hk => hk) trivial HB8 HB8.size (by simp) ?_
  (case hr => unfold pcells; first | (go_simp; done) | (go_simp; rfl))
  (case hp => exact (Reps.c7 (k27_mkM _ _ _ p) (Reps.none _ _)))
  intro v3 w3 ho3 hb3 hg3 hn3
  obtain ⟨a3, k3, rfl⟩ := Kd.R_slice1 ho3 (by simp)
  have HR3 := Kd.R_grown HR8 hg3 (fun k _ => by simp)
  have HL3 := Blk.grown HL8 hg3 (by simp)
  refine hK.out _ _ ⟨keepG hg3 (by simp) (hHeld.1), keepG hg3 (by simp) (hHeld.2.1), keepG hg3 (by simp) (hHeld.2.2.1), keepG hg3 (by simp) (hHeld.2.2.2.1), keepG hg3 (by simp) (hHeld.2.2.2.2.1), keepG hg3 (by simp) (hHeld.2.2.2.2.2.1), keepG hg3 (by simp) (hHeld.2.2.2.2.2.2.1), keepG hg3 (by simp) (hHeld.2.2.2.2.2.2.2)⟩ (fun hHeld => ?_)
  clear hK K
  refine norm_ (a' := ?_) ?_ ?_
  rotate_left
  · show Act.put _ (some 86) _ = _
    simp only [Act.put, List.setIfInBounds_toArray, List.set_cons_zero, List.set_cons_succ, i64_w, i32_w]
    rfl
  refine one_ (i := 8) (N := some 87) #[true, true, true, true, true, true, true, true, true, false, false, false, false] rfl rfl (by kernel_rfl) (by decide) (fun K hK => ?_)
  refine Kd.R_append_rows_step k27 (w0 := ws) ws.heap.size (by rfl) (.tmp 84) (.tmp 86) 22 27 (.agg #[(.int .i64 0), (.int .i64 0), (.int .i64 0), (.int .i64 0), (.int .i64 0), (.int .i64 0), (.int .i64 0)]) 56 rfl Try.underlying22 info27 rfl (by decide) (by omega) (.slice (some ad) n c) ps [p] _ _ _ (fun _ => True) (fun _ => False) rfl rfl ?aO ?aR (fun _ _ h => h) (fun _ h => h.elim) ?aF ?aB ?aS ?aL ?_
  (case aR => exact (Kd.R_reads' ho3).2.2)
  (case aB => exact hb3)
  (case aF => exact fun _ _ => trivial)
  (case aO => exact HR3)
  (case aS => exact hb3.size)
  (case aL => have h_ := HPS.out; simp only [List.length_singleton]; omega)
  intro v4 w4 ho4 hb4 hg4 hat4
  obtain ⟨a4, k4, ev4⟩ := Kd.R_slice ho4
  obtain ⟨n4, en4⟩ : ∃ q_ : Nat, (ps ++ [p]).length = q_ := ⟨_, rfl⟩
  rw [en4] at ev4
  clear en4
  subst ev4
  have hn4 := ne_after HNB.out hat4 HL3.lt
  have HL4 := Blk.grown HL3 hg4 HNB.out
  have hfz : w4.frozen? ⟨B, 1, none⟩ = false := HL4.free 1
  have hc4 : w4.cell? ⟨B, 1, none⟩ = some (.slice (some ad) n c) := HL4.cell rfl
  refine hK.out _ _ ⟨keepG hg4 HNB.out (hHeld.1), keepG hg4 HNX.out (hHeld.2.1), keepG hg4 HNX.out (hHeld.2.2.1), keepG hg4 HNX.out (hHeld.2.2.2.1), keepG hg4 HNX.out (hHeld.2.2.2.2.1), keepG hg4 HNX.out (hHeld.2.2.2.2.2.1), keepG hg4 HNX.out (hHeld.2.2.2.2.2.2.1), keepG hg4 HNX.out (hHeld.2.2.2.2.2.2.2)⟩ (fun hHeld => ?_)
  clear hK K
  refine norm_ (a' := ?_) ?_ ?_
  rotate_left
  · show Act.put _ (some 87) _ = _
    simp only [Act.put, List.setIfInBounds_toArray, List.set_cons_zero, List.set_cons_succ, i64_w, i32_w]
    rfl
  refine pure_ (i := 9) (N := some 88) (v := ?_) (a' := ?_) #[true, true, true, true, true, true, true, true, true, true, false, false, false] rfl rfl (by kernel_rfl) (fun _ _ _ h => h) (Or.inl ⟨by rfl, ?_⟩) ?_ ?_
  rotate_left
  · intro w'
    go_simp
    with_reducible rfl
  rotate_left
  · simp only [Act.put, List.setIfInBounds_toArray, List.set_cons_zero, List.set_cons_succ, i64_w, i32_w]
    rfl
  refine pure_ (i := 10) (N := some 89) (v := ?_) (a' := ?_) #[true, true, true, true, true, true, true, true, true, true, true, false, false] rfl rfl (by kernel_rfl) (fun _ _ _ h => h) (Or.inl ⟨by rfl, ?_⟩) ?_ ?_
  rotate_left
  · intro w'
    go_simp
    with_reducible rfl
  rotate_left
  · simp only [Act.put, List.setIfInBounds_toArray, List.set_cons_zero, List.set_cons_succ, i64_w, i32_w]
    rfl
  refine pure_ (i := 11) (N := some 90) (v := ?_) (a' := ?_) #[true, true, true, true, true, true, true, true, true, true, true, true, false] rfl rfl (by kernel_rfl) (fun _ _ _ h => h) (Or.inl ⟨by rfl, ?_⟩) ?_ ?_
  rotate_left
  · intro w'
    go_simp
    with_reducible rfl
  rotate_left
  · simp only [Act.put, List.setIfInBounds_toArray, List.set_cons_zero, List.set_cons_succ, i64_w, i32_w]
    rfl
  refine last_ (i := 12) (N := none) #[true, true, true, true, true, true, true, true, true, true, true, true, true] rfl rfl (by kernel_rfl) (by decide) (fun K hK => ?_)
  refine skip_ (w1 := ?_) (by rfl) rfl ?_ ?_
  rotate_left
  · go_simp
    rfl
  refine hK.out _ _ ?_
  clear hK K
  refine done_ (by kernel_rfl) ?_
  go_wp2
  go_ret
  exact ⟨rfl, hb4.setCell (p := ⟨B, 1, none⟩) hBb _, _, HL4.set 1 _, Kd.R_set ho4 HL4.heap (by decide) 1 _, hn4, fun k t C hk hkB hkv => (((HFR k t C hk hkB).grown hg3 (by simp)).grown hg4 hkv).set_other ⟨B, 1, none⟩ hkB _⟩
set_option maxRecDepth 100000 in
set_option maxHeartbeats 4000000 in
/-- D, the first posting -/
theorem takes_first (ws : World) (B : Nat) (acc clo : Int) (bk : List Bool) (p : S27) (w : World) (hbel : Below ws.heap.size ws w) (hBb : ws.heap.size ≤ B) (hB : Led w B acc (.slice none 0 0) clo bk) (hf : formedB acc p = true) (hk : p.f0 ≠ 3) :
    Calls Try.prog 38 #[.pointer (some ⟨B, 0, none⟩), pv p] w fun e w' => e = .returned (.bool true) ∧ Below ws.heap.size ws w' ∧ ∃ v', Led w' B acc v' clo bk ∧ Kd.R k27 27 w' ws.heap.size (fun _ => True) v' [p] ∧ some B ≠ v'.ownBlock ∧ (∀ (k : Nat) (t : TypeId) (C : List Value), Blk w k t C → k ≠ B → some k ≠ (Value.slice none 0 0).ownBlock → Blk w' k t C) := by
  have c0 : w.cell? ⟨B, 0, none⟩ = some (.int .i64 acc) := hB.cell rfl
  have c1 : w.cell? ⟨B, 1, none⟩ = some (.slice none 0 0) := hB.cell rfl
  have e0 := box_cells w p 0 _ rfl 27
  have e1 := box_cells w p 1 _ rfl 27
  have e2 := box_cells w p 2 _ rfl 27
  have e3 := box_cells w p 3 _ rfl 27
  have e4 := box_cells w p 4 _ rfl 27
  have e5 := box_cells w p 5 _ rfl 27
  have e6 := box_cells w p 6 _ rfl 27
  have c0' := c_old (o := .cells (pcells p).toArray 27) c0
  have c1' := c_old (o := .cells (pcells p).toArray 27) c1
  have HNX := Lib.hid (show some w.heap.size ≠ (Value.slice none 0 0).ownBlock from fun e => by cases e)
  have HNB := Lib.hid (show some B ≠ (Value.slice none 0 0).ownBlock from fun e => by cases e)
  have hk3 : (p.f0 == 3) = false := beq_eq_false_iff_ne.2 hk
  clear hk
  unfold pv
  unfold pcells at c0' c1' e0 e1 e2 e3 e4 e5 e6
  clear c0 c1
  go_enter Try.func38, Try.ntmps38
  go_wp2
  generalize hw1 : w.alloc (.cells [Value.int .i64 p.f0, .int .i64 p.f1, .int .i64 p.f2, .int .i64 p.f3, .int .i64 p.f4, .int .i64 p.f5, .int .i64 p.f6].toArray 27) = w1 at *
  have hbw : Below w.heap.size w w1.drew := below_drew1 (by rw [← hw1]; exact (Below.refl _ _).alloc (Nat.le_refl _) _)
  refine start_ (n := 31) (S := fun w' => w'.cell? ⟨B, 0, none⟩ = some (.int .i64 acc) ∧ w'.cell? ⟨w.heap.size, 0, none⟩ = some (.int .i64 p.f0) ∧ w'.cell? ⟨w.heap.size, 1, none⟩ = some (.int .i64 p.f1) ∧ w'.cell? ⟨w.heap.size, 2, none⟩ = some (.int .i64 p.f2) ∧ w'.cell? ⟨w.heap.size, 3, none⟩ = some (.int .i64 p.f3) ∧ w'.cell? ⟨w.heap.size, 4, none⟩ = some (.int .i64 p.f4) ∧ w'.cell? ⟨w.heap.size, 5, none⟩ = some (.int .i64 p.f5) ∧ w'.cell? ⟨w.heap.size, 6, none⟩ = some (.int .i64 p.f6)) (ds := []) #[false, false, false, false, false, false, false, false, false, false, false, false, false, false, false, false, false, false, false, false, false, false, false, false, false, false, false, false, false, false, false] (by kernel_rfl) rfl rfl ⟨c0', e0, e1, e2, e3, e4, e5, e6⟩ (fun hHeld => ?_)
  generalize w1.drew = wd at *
  refine pure_ (i := 0) (N := (some 12)) (v := ?_) (a' := ?_) #[true, false, false, false, false, false, false, false, false, false, false, false, false, false, false, false, false, false, false, false, false, false, false, false, false, false, false, false, false, false, false] rfl rfl (by kernel_rfl) (fun _ _ _ h => h) (Or.inl ⟨by rfl, ?_⟩) ?_ ?_
  rotate_left
  · intro w'
    go_simp
    with_reducible rfl
  rotate_left
  · simp only [Act.put, List.setIfInBounds_toArray, List.set_cons_zero, List.set_cons_succ, i64_w, i32_w]
    rfl
  refine pure_ (i := 1) (N := (some 13)) (v := ?_) (a' := ?_) #[true, true, false, false, false, false, false, false, false, false, false, false, false, false, false, false, false, false, false, false, false, false, false, false, false, false, false, false, false, false, false] rfl rfl (by kernel_rfl) (fun _ _ _ h => h) (Or.inl ⟨by rfl, ?_⟩) ?_ ?_
  rotate_left
  · intro w'
    go_simp
    with_reducible rfl
  rotate_left
  · simp only [Act.put, List.setIfInBounds_toArray, List.set_cons_zero, List.set_cons_succ, i64_w, i32_w]
    rfl
  refine pure_ (i := 2) (N := (some 14)) (v := ?_) (a' := ?_) #[true, true, true, false, false, false, false, false, false, false, false, false, false, false, false, false, false, false, false, false, false, false, false, false, false, false, false, false, false, false, false] rfl rfl (by kernel_rfl) (fun _ _ _ h => h) (Or.inl ⟨by rfl, ?_⟩) ?_ ?_
  rotate_left
  · intro w'
    go_simp
    with_reducible rfl
  rotate_left
  · simp only [Act.put, List.setIfInBounds_toArray, List.set_cons_zero, List.set_cons_succ, i64_w, i32_w]
    rfl
  refine take_ (i := 3) (N := (some 15)) (v := ?_) (a' := ?_) #[true, true, true, true, false, false, false, false, false, false, false, false, false, false, false, false, false, false, false, false, false, false, false, false, false, false, false, false, false, false, false] rfl rfl (by kernel_rfl) (fun _ _ _ h => h) (Or.inl ⟨by rfl, ?_⟩) hHeld ?_ ?_
  rotate_left
  · rintro w' ⟨s0, s1, s2, s3, s4, s5, s6, s7⟩
    go_simp
    with_reducible rfl
  rotate_left
  · simp only [Act.put, List.setIfInBounds_toArray, List.set_cons_zero, List.set_cons_succ, i64_w, i32_w]
    rfl
  refine pure_ (i := 4) (N := (some 16)) (v := ?_) (a' := ?_) #[true, true, true, true, true, false, false, false, false, false, false, false, false, false, false, false, false, false, false, false, false, false, false, false, false, false, false, false, false, false, false] rfl rfl (by kernel_rfl) (fun _ _ _ h => h) (Or.inl ⟨by rfl, ?_⟩) ?_ ?_
  rotate_left
  · intro w'
    go_simp
    with_reducible rfl
  rotate_left
  · simp only [Act.put, List.setIfInBounds_toArray, List.set_cons_zero, List.set_cons_succ, i64_w, i32_w]
    rfl
  refine pure_ (i := 5) (N := (some 17)) (v := ?_) (a' := ?_) #[true, true, true, true, true, true, false, false, false, false, false, false, false, false, false, false, false, false, false, false, false, false, false, false, false, false, false, false, false, false, false] rfl rfl (by kernel_rfl) (fun _ _ _ h => h) (Or.inl ⟨by rfl, ?_⟩) ?_ ?_
  rotate_left
  · intro w'
    go_simp
    with_reducible rfl
  rotate_left
  · simp only [Act.put, List.setIfInBounds_toArray, List.set_cons_zero, List.set_cons_succ, i64_w, i32_w]
    rfl
  refine pure_ (i := 6) (N := (some 18)) (v := ?_) (a' := ?_) #[true, true, true, true, true, true, true, false, false, false, false, false, false, false, false, false, false, false, false, false, false, false, false, false, false, false, false, false, false, false, false] rfl rfl (by kernel_rfl) (fun _ _ _ h => h) (Or.inl ⟨by rfl, ?_⟩) ?_ ?_
  rotate_left
  · intro w'
    go_simp
    with_reducible rfl
  rotate_left
  · simp only [Act.put, List.setIfInBounds_toArray, List.set_cons_zero, List.set_cons_succ, i64_w, i32_w]
    rfl
  refine pure_ (i := 7) (N := (some 19)) (v := ?_) (a' := ?_) #[true, true, true, true, true, true, true, true, false, false, false, false, false, false, false, false, false, false, false, false, false, false, false, false, false, false, false, false, false, false, false] rfl rfl (by kernel_rfl) (fun _ _ _ h => h) (Or.inl ⟨by rfl, ?_⟩) ?_ ?_
  rotate_left
  · intro w'
    go_simp
    with_reducible rfl
  rotate_left
  · simp only [Act.put, List.setIfInBounds_toArray, List.set_cons_zero, List.set_cons_succ, i64_w, i32_w]
    rfl
  refine take_ (i := 8) (N := (some 20)) (v := ?_) (a' := ?_) #[true, true, true, true, true, true, true, true, true, false, false, false, false, false, false, false, false, false, false, false, false, false, false, false, false, false, false, false, false, false, false] rfl rfl (by kernel_rfl) (fun _ _ _ h => h) (Or.inl ⟨by rfl, ?_⟩) hHeld ?_ ?_
  rotate_left
  · rintro w' ⟨s0, s1, s2, s3, s4, s5, s6, s7⟩
    go_simp
    with_reducible rfl
  rotate_left
  · simp only [Act.put, List.setIfInBounds_toArray, List.set_cons_zero, List.set_cons_succ, i64_w, i32_w]
    rfl
  refine one_ (i := 9) (N := (some 21)) #[true, true, true, true, true, true, true, true, true, true, false, false, false, false, false, false, false, false, false, false, false, false, false, false, false, false, false, false, false, false, false] rfl rfl (by kernel_rfl) (by decide) (fun K hK => ?_)
  refine goes_ Try.func40 (by kernel_rfl) rfl #[.agg #[.int .i64 p.f0, .int .i64 p.f1, .int .i64 p.f2, .int .i64 p.f3, .int .i64 p.f4, .int .i64 p.f5, .int .i64 p.f6], .int .i64 acc] (by rfl) rfl rfl (by (try simp only [List.map_toArray, List.map_cons, List.map_nil]); first | done | rfl) ?_
  refine (formed_walk' acc p true hf _).mono ?_
  rintro e w2 ⟨rfl, hb1⟩
  refine ⟨_, rfl, ?_⟩
  refine hK.out _ _ ⟨keepB hb1 hHeld.1, keepB hb1 hHeld.2.1, keepB hb1 hHeld.2.2.1, keepB hb1 hHeld.2.2.2.1, keepB hb1 hHeld.2.2.2.2.1, keepB hb1 hHeld.2.2.2.2.2.1, keepB hb1 hHeld.2.2.2.2.2.2.1, keepB hb1 hHeld.2.2.2.2.2.2.2⟩ (fun hHeld => ?_)
  clear hK K
  refine norm_ (a' := ?_) ?_ ?_
  rotate_left
  · show Act.put _ (some 21) _ = _
    simp only [Act.put, List.setIfInBounds_toArray, List.set_cons_zero, List.set_cons_succ, i64_w, i32_w]
    rfl
  refine pure_ (i := 10) (N := (some 22)) (v := ?_) (a' := ?_) #[true, true, true, true, true, true, true, true, true, true, true, false, false, false, false, false, false, false, false, false, false, false, false, false, false, false, false, false, false, false, false] rfl rfl (by kernel_rfl) (fun _ _ _ h => h) (Or.inl ⟨by rfl, ?_⟩) ?_ ?_
  rotate_left
  · intro w'
    go_simp
    with_reducible rfl
  rotate_left
  · simp only [Act.put, List.setIfInBounds_toArray, List.set_cons_zero, List.set_cons_succ, i64_w, i32_w]
    rfl
  refine pure_ (i := 11) (N := (some 23)) (v := ?_) (a' := ?_) #[true, true, true, true, true, true, true, true, true, true, true, true, false, false, false, false, false, false, false, false, false, false, false, false, false, false, false, false, false, false, false] rfl rfl (by kernel_rfl) (fun _ _ _ h => h) (Or.inl ⟨by rfl, ?_⟩) ?_ ?_
  rotate_left
  · intro w'
    go_simp
    with_reducible rfl
  rotate_left
  · simp only [Act.put, List.setIfInBounds_toArray, List.set_cons_zero, List.set_cons_succ, i64_w, i32_w]
    rfl
  refine pure_ (i := 12) (N := (some 24)) (v := ?_) (a' := ?_) #[true, true, true, true, true, true, true, true, true, true, true, true, true, false, false, false, false, false, false, false, false, false, false, false, false, false, false, false, false, false, false] rfl rfl (by kernel_rfl) (fun _ _ _ h => h) (Or.inl ⟨by rfl, ?_⟩) ?_ ?_
  rotate_left
  · intro w'
    go_simp
    with_reducible rfl
  rotate_left
  · simp only [Act.put, List.setIfInBounds_toArray, List.set_cons_zero, List.set_cons_succ, i64_w, i32_w]
    rfl
  refine pure_ (i := 13) (N := (some 25)) (v := ?_) (a' := ?_) #[true, true, true, true, true, true, true, true, true, true, true, true, true, true, false, false, false, false, false, false, false, false, false, false, false, false, false, false, false, false, false] rfl rfl (by kernel_rfl) (fun _ _ _ h => h) (Or.inl ⟨by rfl, ?_⟩) ?_ ?_
  rotate_left
  · intro w'
    go_simp
    with_reducible rfl
  rotate_left
  · simp only [Act.put, List.setIfInBounds_toArray, List.set_cons_zero, List.set_cons_succ, i64_w, i32_w]
    rfl
  refine pure_ (i := 14) (N := (some 26)) (v := ?_) (a' := ?_) #[true, true, true, true, true, true, true, true, true, true, true, true, true, true, true, false, false, false, false, false, false, false, false, false, false, false, false, false, false, false, false] rfl rfl (by kernel_rfl) (fun _ _ _ h => h) (Or.inl ⟨by rfl, ?_⟩) ?_ ?_
  rotate_left
  · intro w'
    go_simp
    with_reducible rfl
  rotate_left
  · simp only [Act.put, List.setIfInBounds_toArray, List.set_cons_zero, List.set_cons_succ, i64_w, i32_w]
    rfl
  refine pure_ (i := 15) (N := (some 27)) (v := ?_) (a' := ?_) #[true, true, true, true, true, true, true, true, true, true, true, true, true, true, true, true, false, false, false, false, false, false, false, false, false, false, false, false, false, false, false] rfl rfl (by kernel_rfl) (fun _ _ _ h => h) (Or.inl ⟨by rfl, ?_⟩) ?_ ?_
  rotate_left
  · intro w'
    go_simp
    with_reducible rfl
  rotate_left
  · simp only [Act.put, List.setIfInBounds_toArray, List.set_cons_zero, List.set_cons_succ, i64_w, i32_w]
    rfl
  refine pure_ (i := 16) (N := (some 28)) (v := undef) (a' := ?_) #[true, true, true, true, true, true, true, true, true, true, true, true, true, true, true, true, true, false, false, false, false, false, false, false, false, false, false, false, false, false, false] rfl rfl (by kernel_rfl) (fun _ _ _ h => h) (Or.inr ⟨by rfl, rfl⟩) ?_ ?_
  rotate_left
  · simp only [Act.put, List.setIfInBounds_toArray, List.set_cons_zero, List.set_cons_succ, i64_w, i32_w]
    rfl
  refine pure_ (i := 17) (N := (some 29)) (v := undef) (a' := ?_) #[true, true, true, true, true, true, true, true, true, true, true, true, true, true, true, true, true, true, false, false, false, false, false, false, false, false, false, false, false, false, false] rfl rfl (by kernel_rfl) (fun _ _ _ h => h) (Or.inr ⟨by rfl, rfl⟩) ?_ ?_
  rotate_left
  · simp only [Act.put, List.setIfInBounds_toArray, List.set_cons_zero, List.set_cons_succ, i64_w, i32_w]
    rfl
  refine pure_ (i := 18) (N := (some 30)) (v := undef) (a' := ?_) #[true, true, true, true, true, true, true, true, true, true, true, true, true, true, true, true, true, true, true, false, false, false, false, false, false, false, false, false, false, false, false] rfl rfl (by kernel_rfl) (fun _ _ _ h => h) (Or.inr ⟨by rfl, rfl⟩) ?_ ?_
  rotate_left
  · simp only [Act.put, List.setIfInBounds_toArray, List.set_cons_zero, List.set_cons_succ, i64_w, i32_w]
    rfl
  refine pure_ (i := 19) (N := (some 31)) (v := undef) (a' := ?_) #[true, true, true, true, true, true, true, true, true, true, true, true, true, true, true, true, true, true, true, true, false, false, false, false, false, false, false, false, false, false, false] rfl rfl (by kernel_rfl) (fun _ _ _ h => h) (Or.inr ⟨by rfl, rfl⟩) ?_ ?_
  rotate_left
  · simp only [Act.put, List.setIfInBounds_toArray, List.set_cons_zero, List.set_cons_succ, i64_w, i32_w]
    rfl
  refine pure_ (i := 20) (N := (some 32)) (v := undef) (a' := ?_) #[true, true, true, true, true, true, true, true, true, true, true, true, true, true, true, true, true, true, true, true, true, false, false, false, false, false, false, false, false, false, false] rfl rfl (by kernel_rfl) (fun _ _ _ h => h) (Or.inr ⟨by rfl, rfl⟩) ?_ ?_
  rotate_left
  · simp only [Act.put, List.setIfInBounds_toArray, List.set_cons_zero, List.set_cons_succ, i64_w, i32_w]
    rfl
  refine pure_ (i := 21) (N := (some 33)) (v := undef) (a' := ?_) #[true, true, true, true, true, true, true, true, true, true, true, true, true, true, true, true, true, true, true, true, true, true, false, false, false, false, false, false, false, false, false] rfl rfl (by kernel_rfl) (fun _ _ _ h => h) (Or.inr ⟨by rfl, rfl⟩) ?_ ?_
  rotate_left
  · simp only [Act.put, List.setIfInBounds_toArray, List.set_cons_zero, List.set_cons_succ, i64_w, i32_w]
    rfl
  refine pure_ (i := 22) (N := (some 34)) (v := undef) (a' := ?_) #[true, true, true, true, true, true, true, true, true, true, true, true, true, true, true, true, true, true, true, true, true, true, true, false, false, false, false, false, false, false, false] rfl rfl (by kernel_rfl) (fun _ _ _ h => h) (Or.inr ⟨by rfl, rfl⟩) ?_ ?_
  rotate_left
  · simp only [Act.put, List.setIfInBounds_toArray, List.set_cons_zero, List.set_cons_succ, i64_w, i32_w]
    rfl
  refine pure_ (i := 23) (N := (some 35)) (v := undef) (a' := ?_) #[true, true, true, true, true, true, true, true, true, true, true, true, true, true, true, true, true, true, true, true, true, true, true, true, false, false, false, false, false, false, false] rfl rfl (by kernel_rfl) (fun _ _ _ h => h) (Or.inr ⟨by rfl, rfl⟩) ?_ ?_
  rotate_left
  · simp only [Act.put, List.setIfInBounds_toArray, List.set_cons_zero, List.set_cons_succ, i64_w, i32_w]
    rfl
  refine pure_ (i := 24) (N := (some 36)) (v := undef) (a' := ?_) #[true, true, true, true, true, true, true, true, true, true, true, true, true, true, true, true, true, true, true, true, true, true, true, true, true, false, false, false, false, false, false] rfl rfl (by kernel_rfl) (fun _ _ _ h => h) (Or.inr ⟨by rfl, rfl⟩) ?_ ?_
  rotate_left
  · simp only [Act.put, List.setIfInBounds_toArray, List.set_cons_zero, List.set_cons_succ, i64_w, i32_w]
    rfl
  refine pure_ (i := 25) (N := (some 37)) (v := undef) (a' := ?_) #[true, true, true, true, true, true, true, true, true, true, true, true, true, true, true, true, true, true, true, true, true, true, true, true, true, true, false, false, false, false, false] rfl rfl (by kernel_rfl) (fun _ _ _ h => h) (Or.inr ⟨by rfl, rfl⟩) ?_ ?_
  rotate_left
  · simp only [Act.put, List.setIfInBounds_toArray, List.set_cons_zero, List.set_cons_succ, i64_w, i32_w]
    rfl
  refine pure_ (i := 26) (N := (some 38)) (v := undef) (a' := ?_) #[true, true, true, true, true, true, true, true, true, true, true, true, true, true, true, true, true, true, true, true, true, true, true, true, true, true, true, false, false, false, false] rfl rfl (by kernel_rfl) (fun _ _ _ h => h) (Or.inr ⟨by rfl, rfl⟩) ?_ ?_
  rotate_left
  · simp only [Act.put, List.setIfInBounds_toArray, List.set_cons_zero, List.set_cons_succ, i64_w, i32_w]
    rfl
  refine pure_ (i := 27) (N := (some 39)) (v := undef) (a' := ?_) #[true, true, true, true, true, true, true, true, true, true, true, true, true, true, true, true, true, true, true, true, true, true, true, true, true, true, true, true, false, false, false] rfl rfl (by kernel_rfl) (fun _ _ _ h => h) (Or.inr ⟨by rfl, rfl⟩) ?_ ?_
  rotate_left
  · simp only [Act.put, List.setIfInBounds_toArray, List.set_cons_zero, List.set_cons_succ, i64_w, i32_w]
    rfl
  refine pure_ (i := 28) (N := (some 40)) (v := undef) (a' := ?_) #[true, true, true, true, true, true, true, true, true, true, true, true, true, true, true, true, true, true, true, true, true, true, true, true, true, true, true, true, true, false, false] rfl rfl (by kernel_rfl) (fun _ _ _ h => h) (Or.inr ⟨by rfl, rfl⟩) ?_ ?_
  rotate_left
  · simp only [Act.put, List.setIfInBounds_toArray, List.set_cons_zero, List.set_cons_succ, i64_w, i32_w]
    rfl
  refine pure_ (i := 29) (N := (some 41)) (v := ?_) (a' := ?_) #[true, true, true, true, true, true, true, true, true, true, true, true, true, true, true, true, true, true, true, true, true, true, true, true, true, true, true, true, true, true, false] rfl rfl (by kernel_rfl) (fun _ _ _ h => h) (Or.inl ⟨by rfl, ?_⟩) ?_ ?_
  rotate_left
  · intro w'
    go_simp
    with_reducible rfl
  rotate_left
  · simp only [Act.put, List.setIfInBounds_toArray, List.set_cons_zero, List.set_cons_succ, i64_w, i32_w]
    rfl
  refine pure_ (i := 30) (N := (some 42)) (v := ?_) (a' := ?_) #[true, true, true, true, true, true, true, true, true, true, true, true, true, true, true, true, true, true, true, true, true, true, true, true, true, true, true, true, true, true, true] rfl rfl (by kernel_rfl) (fun _ _ _ h => h) (Or.inl ⟨by rfl, ?_⟩) ?_ ?_
  rotate_left
  · intro w'
    go_simp
    with_reducible rfl
  rotate_left
  · simp only [Act.put, List.setIfInBounds_toArray, List.set_cons_zero, List.set_cons_succ, i64_w, i32_w]
    rfl
  refine done_ (by kernel_rfl) ?_
  have hbw2 : Below w.heap.size w w2.drew := below_drew1 (Below.trans hbw (hb1.mono hbw.size))
  have HB8 : Below ws.heap.size ws w2.drew := Below.trans hbel (hbw2.mono hbel.size)
  have HL8 := hB.belowS hbw2
  have g0 : w2.drew.cell? ⟨w.heap.size, 0, none⟩ = some (.int .i64 p.f0) := hHeld.2.1
  have g1 : w2.drew.cell? ⟨w.heap.size, 1, none⟩ = some (.int .i64 p.f1) := hHeld.2.2.1
  have g2 : w2.drew.cell? ⟨w.heap.size, 2, none⟩ = some (.int .i64 p.f2) := hHeld.2.2.2.1
  have g3 : w2.drew.cell? ⟨w.heap.size, 3, none⟩ = some (.int .i64 p.f3) := hHeld.2.2.2.2.1
  have g4 : w2.drew.cell? ⟨w.heap.size, 4, none⟩ = some (.int .i64 p.f4) := hHeld.2.2.2.2.2.1
  have g5 : w2.drew.cell? ⟨w.heap.size, 5, none⟩ = some (.int .i64 p.f5) := hHeld.2.2.2.2.2.2.1
  have g6 : w2.drew.cell? ⟨w.heap.size, 6, none⟩ = some (.int .i64 p.f6) := hHeld.2.2.2.2.2.2.2
  have gk : w2.cell? ⟨w.heap.size, 0, none⟩ = some (.int .i64 p.f0) := g0
  have HR8 : Kd.R k27 27 w2.drew ws.heap.size (fun _ => True) (.slice none 0 0) [] := Kd.R_nil _ _ _ _ _
  clear hHeld c0' c1' e0 e1 e2 e3 e4 e5 e6 hw1
  go_wp2
  refine start_ (n := 13) (S := fun w' => w'.cell? ⟨B, 1, none⟩ = some (.slice none 0 0) ∧ w'.cell? ⟨w.heap.size, 0, none⟩ = some (.int .i64 p.f0) ∧ w'.cell? ⟨w.heap.size, 1, none⟩ = some (.int .i64 p.f1) ∧ w'.cell? ⟨w.heap.size, 2, none⟩ = some (.int .i64 p.f2) ∧ w'.cell? ⟨w.heap.size, 3, none⟩ = some (.int .i64 p.f3) ∧ w'.cell? ⟨w.heap.size, 4, none⟩ = some (.int .i64 p.f4) ∧ w'.cell? ⟨w.heap.size, 5, none⟩ = some (.int .i64 p.f5) ∧ w'.cell? ⟨w.heap.size, 6, none⟩ = some (.int .i64 p.f6)) (ds := [12]) #[false, false, false, false, false, false, false, false, false, false, false, false, false] (by kernel_rfl) rfl rfl ⟨HL8.cell rfl, g0, g1, g2, g3, g4, g5, g6⟩ (fun hHeld => ?_)
  generalize w2.drew = wd2 at *
  refine pure_ (i := 0) (N := some 79) (v := ?_) (a' := ?_) #[true, false, false, false, false, false, false, false, false, false, false, false, false] rfl rfl (by kernel_rfl) (fun _ _ _ h => h) (Or.inl ⟨by rfl, ?_⟩) ?_ ?_
  rotate_left
  · intro w'
    go_simp
    with_reducible rfl
  rotate_left
  · simp only [Act.put, List.setIfInBounds_toArray, List.set_cons_zero, List.set_cons_succ, i64_w, i32_w]
    rfl
  refine pure_ (i := 1) (N := some 80) (v := ?_) (a' := ?_) #[true, true, false, false, false, false, false, false, false, false, false, false, false] rfl rfl (by kernel_rfl) (fun _ _ _ h => h) (Or.inl ⟨by rfl, ?_⟩) ?_ ?_
  rotate_left
  · intro w'
    go_simp
    with_reducible rfl
  rotate_left
  · simp only [Act.put, List.setIfInBounds_toArray, List.set_cons_zero, List.set_cons_succ, i64_w, i32_w]
    rfl
  refine pure_ (i := 2) (N := some 81) (v := ?_) (a' := ?_) #[true, true, true, false, false, false, false, false, false, false, false, false, false] rfl rfl (by kernel_rfl) (fun _ _ _ h => h) (Or.inl ⟨by rfl, ?_⟩) ?_ ?_
  rotate_left
  · intro w'
    go_simp
    with_reducible rfl
  rotate_left
  · simp only [Act.put, List.setIfInBounds_toArray, List.set_cons_zero, List.set_cons_succ, i64_w, i32_w]
    rfl
  refine pure_ (i := 3) (N := some 82) (v := ?_) (a' := ?_) #[true, true, true, true, false, false, false, false, false, false, false, false, false] rfl rfl (by kernel_rfl) (fun _ _ _ h => h) (Or.inl ⟨by rfl, ?_⟩) ?_ ?_
  rotate_left
  · intro w'
    go_simp
    with_reducible rfl
  rotate_left
  · simp only [Act.put, List.setIfInBounds_toArray, List.set_cons_zero, List.set_cons_succ, i64_w, i32_w]
    rfl
  refine pure_ (i := 4) (N := some 83) (v := ?_) (a' := ?_) #[true, true, true, true, true, false, false, false, false, false, false, false, false] rfl rfl (by kernel_rfl) (fun _ _ _ h => h) (Or.inl ⟨by rfl, ?_⟩) ?_ ?_
  rotate_left
  · intro w'
    go_simp
    with_reducible rfl
  rotate_left
  · simp only [Act.put, List.setIfInBounds_toArray, List.set_cons_zero, List.set_cons_succ, i64_w, i32_w]
    rfl
  refine take_ (i := 5) (N := some 84) (v := ?_) (a' := ?_) #[true, true, true, true, true, true, false, false, false, false, false, false, false] rfl rfl (by kernel_rfl) (fun _ _ _ h => h) (Or.inl ⟨by rfl, ?_⟩) hHeld ?_ ?_
  rotate_left
  · rintro w' ⟨s0, s1, s2, s3, s4, s5, s6, s7⟩
    go_simp
    with_reducible rfl
  rotate_left
  · simp only [Act.put, List.setIfInBounds_toArray, List.set_cons_zero, List.set_cons_succ, i64_w, i32_w]
    rfl
  refine take_ (i := 6) (N := some 85) (v := ?_) (a' := ?_) #[true, true, true, true, true, true, true, false, false, false, false, false, false] rfl rfl (by kernel_rfl) (fun _ _ _ h => h) (Or.inl ⟨by rfl, ?_⟩) hHeld ?_ ?_
  rotate_left
  · rintro w' ⟨s0, s1, s2, s3, s4, s5, s6, s7⟩
    go_simp
    with_reducible rfl
  rotate_left
  · simp only [Act.put, List.setIfInBounds_toArray, List.set_cons_zero, List.set_cons_succ, i64_w, i32_w]
    rfl
  refine one_ (i := 7) (N := some 86) #[true, true, true, true, true, true, true, true, false, false, false, false, false] rfl rfl (by kernel_rfl) (by decide) (fun K hK => ?_)
  refine Kd.R_lit_step k27 (w0 := ws) ws.heap.size 27 (by rfl) (N := 86) rfl (xs := [p]) (inner := pcells p) (ok := fun _ => True) (okp := fun _ => True) ?hr ?hp (fun _ hk => hk) trivial HB8 HB8.size (by simp) ?_
  (case hr => unfold pcells; first | (go_simp; done) | (go_simp; rfl))
  (case hp => exact (Reps.c7 (k27_mkM _ _ _ p) (Reps.none _ _)))
  intro v3 w3 ho3 hb3 hg3 hn3
  obtain ⟨a3, k3, rfl⟩ := Kd.R_slice1 ho3 (by simp)
  have HR3 := Kd.R_grown HR8 hg3 (fun k _ => by simp)
  have HL3 := Blk.grown HL8 hg3 (by simp)
  refine hK.out _ _ ⟨keepG hg3 (by simp) (hHeld.1), keepG hg3 (by simp) (hHeld.2.1), keepG hg3 (by simp) (hHeld.2.2.1), keepG hg3 (by simp) (hHeld.2.2.2.1), keepG hg3 (by simp) (hHeld.2.2.2.2.1), keepG hg3 (by simp) (hHeld.2.2.2.2.2.1), keepG hg3 (by simp) (hHeld.2.2.2.2.2.2.1), keepG hg3 (by simp) (hHeld.2.2.2.2.2.2.2)⟩ (fun hHeld => ?_)
  clear hK K
  refine norm_ (a' := ?_) ?_ ?_
  rotate_left
  · show Act.put _ (some 86) _ = _
    simp only [Act.put, List.setIfInBounds_toArray, List.set_cons_zero, List.set_cons_succ, i64_w, i32_w]
    rfl
  refine one_ (i := 8) (N := some 87) #[true, true, true, true, true, true, true, true, true, false, false, false, false] rfl rfl (by kernel_rfl) (by decide) (fun K hK => ?_)
  refine Kd.R_append_rows_step k27 (w0 := ws) ws.heap.size (by rfl) (.tmp 84) (.tmp 86) 22 27 (.agg #[(.int .i64 0), (.int .i64 0), (.int .i64 0), (.int .i64 0), (.int .i64 0), (.int .i64 0), (.int .i64 0)]) 56 rfl Try.underlying22 info27 rfl (by decide) (by omega) (.slice none 0 0) [] [p] _ _ _ (fun _ => True) (fun _ => False) rfl rfl ?aO ?aR (fun _ _ h => h) (fun _ h => h.elim) ?aF ?aB ?aS ?aL ?_
  (case aR => exact (Kd.R_reads' ho3).2.2)
  (case aB => exact hb3)
  (case aF => exact fun _ _ => trivial)
  (case aO => exact HR3)
  (case aS => exact hb3.size)
  (case aL => simp)
  intro v4 w4 ho4 hb4 hg4 hat4
  obtain ⟨a4, k4, ev4⟩ := Kd.R_slice ho4
  obtain ⟨n4, en4⟩ : ∃ q_ : Nat, ([] ++ [p]).length = q_ := ⟨_, rfl⟩
  rw [en4] at ev4
  clear en4
  subst ev4
  have hn4 := ne_after HNB.out hat4 HL3.lt
  have HL4 := Blk.grown HL3 hg4 HNB.out
  have hfz : w4.frozen? ⟨B, 1, none⟩ = false := HL4.free 1
  have hc4 : w4.cell? ⟨B, 1, none⟩ = some (.slice none 0 0) := HL4.cell rfl
  refine hK.out _ _ ⟨keepG hg4 HNB.out (hHeld.1), keepG hg4 HNX.out (hHeld.2.1), keepG hg4 HNX.out (hHeld.2.2.1), keepG hg4 HNX.out (hHeld.2.2.2.1), keepG hg4 HNX.out (hHeld.2.2.2.2.1), keepG hg4 HNX.out (hHeld.2.2.2.2.2.1), keepG hg4 HNX.out (hHeld.2.2.2.2.2.2.1), keepG hg4 HNX.out (hHeld.2.2.2.2.2.2.2)⟩ (fun hHeld => ?_)
  clear hK K
  refine norm_ (a' := ?_) ?_ ?_
  rotate_left
  · show Act.put _ (some 87) _ = _
    simp only [Act.put, List.setIfInBounds_toArray, List.set_cons_zero, List.set_cons_succ, i64_w, i32_w]
    rfl
  refine pure_ (i := 9) (N := some 88) (v := ?_) (a' := ?_) #[true, true, true, true, true, true, true, true, true, true, false, false, false] rfl rfl (by kernel_rfl) (fun _ _ _ h => h) (Or.inl ⟨by rfl, ?_⟩) ?_ ?_
  rotate_left
  · intro w'
    go_simp
    with_reducible rfl
  rotate_left
  · simp only [Act.put, List.setIfInBounds_toArray, List.set_cons_zero, List.set_cons_succ, i64_w, i32_w]
    rfl
  refine pure_ (i := 10) (N := some 89) (v := ?_) (a' := ?_) #[true, true, true, true, true, true, true, true, true, true, true, false, false] rfl rfl (by kernel_rfl) (fun _ _ _ h => h) (Or.inl ⟨by rfl, ?_⟩) ?_ ?_
  rotate_left
  · intro w'
    go_simp
    with_reducible rfl
  rotate_left
  · simp only [Act.put, List.setIfInBounds_toArray, List.set_cons_zero, List.set_cons_succ, i64_w, i32_w]
    rfl
  refine pure_ (i := 11) (N := some 90) (v := ?_) (a' := ?_) #[true, true, true, true, true, true, true, true, true, true, true, true, false] rfl rfl (by kernel_rfl) (fun _ _ _ h => h) (Or.inl ⟨by rfl, ?_⟩) ?_ ?_
  rotate_left
  · intro w'
    go_simp
    with_reducible rfl
  rotate_left
  · simp only [Act.put, List.setIfInBounds_toArray, List.set_cons_zero, List.set_cons_succ, i64_w, i32_w]
    rfl
  refine last_ (i := 12) (N := none) #[true, true, true, true, true, true, true, true, true, true, true, true, true] rfl rfl (by kernel_rfl) (by decide) (fun K hK => ?_)
  refine skip_ (w1 := ?_) (by rfl) rfl ?_ ?_
  rotate_left
  · go_simp
    rfl
  refine hK.out _ _ ?_
  clear hK K
  refine done_ (by kernel_rfl) ?_
  go_wp2
  go_ret
  exact ⟨rfl, hb4.setCell (p := ⟨B, 1, none⟩) hBb _, _, HL4.set 1 _, Kd.R_set ho4 HL4.heap (by decide) 1 _, hn4, fun k t C hk hkB hkv => (((hk.belowS hbw2).grown hg3 (by simp)).grown hg4 hkv).set_other ⟨B, 1, none⟩ hkB _⟩
set_option maxRecDepth 100000 in
set_option maxHeartbeats 4000000 in
/-- E, there is nothing to take back -/
theorem takes_none (ws : World) (B : Nat) (acc clo : Int) (bk : List Bool) (p : S27) (w : World) (hbel : Below ws.heap.size ws w) (hBb : ws.heap.size ≤ B) (hB : Led w B acc (.slice none 0 0) clo bk) (hf : formedB acc p = true) (o : Nat) (ho : p.f6 = (o : Int)) (hk : p.f0 = 3) :
    Calls Try.prog 38 #[.pointer (some ⟨B, 0, none⟩), pv p] w fun e w' => e = .returned (.bool false) ∧ Below w.heap.size w w' := by
  have c0 : w.cell? ⟨B, 0, none⟩ = some (.int .i64 acc) := hB.cell rfl
  have c1 : w.cell? ⟨B, 1, none⟩ = some (.slice none 0 0) := hB.cell rfl
  have e0 := box_cells w p 0 _ rfl 27
  have e1 := box_cells w p 1 _ rfl 27
  have e2 := box_cells w p 2 _ rfl 27
  have e3 := box_cells w p 3 _ rfl 27
  have e4 := box_cells w p 4 _ rfl 27
  have e5 := box_cells w p 5 _ rfl 27
  have e6 := box_cells w p 6 _ rfl 27
  have c0' := c_old (o := .cells (pcells p).toArray 27) c0
  have c1' := c_old (o := .cells (pcells p).toArray 27) c1
  have HNX := Lib.hid (show some w.heap.size ≠ (Value.slice none 0 0).ownBlock from fun e => by cases e)
  have HNB := Lib.hid (show some B ≠ (Value.slice none 0 0).ownBlock from fun e => by cases e)
  have hk3 : (p.f0 == 3) = true := beq_iff_eq.2 hk
  have HO := Lib.hid ho
  clear hk ho
  unfold pv
  unfold pcells at c0' c1' e0 e1 e2 e3 e4 e5 e6
  clear c0 c1
  go_enter Try.func38, Try.ntmps38
  go_wp2
  generalize hw1 : w.alloc (.cells [Value.int .i64 p.f0, .int .i64 p.f1, .int .i64 p.f2, .int .i64 p.f3, .int .i64 p.f4, .int .i64 p.f5, .int .i64 p.f6].toArray 27) = w1 at *
  have hbw : Below w.heap.size w w1.drew := below_drew1 (by rw [← hw1]; exact (Below.refl _ _).alloc (Nat.le_refl _) _)
  refine start_ (n := 31) (S := fun w' => w'.cell? ⟨B, 0, none⟩ = some (.int .i64 acc) ∧ w'.cell? ⟨w.heap.size, 0, none⟩ = some (.int .i64 p.f0) ∧ w'.cell? ⟨w.heap.size, 1, none⟩ = some (.int .i64 p.f1) ∧ w'.cell? ⟨w.heap.size, 2, none⟩ = some (.int .i64 p.f2) ∧ w'.cell? ⟨w.heap.size, 3, none⟩ = some (.int .i64 p.f3) ∧ w'.cell? ⟨w.heap.size, 4, none⟩ = some (.int .i64 p.f4) ∧ w'.cell? ⟨w.heap.size, 5, none⟩ = some (.int .i64 p.f5) ∧ w'.cell? ⟨w.heap.size, 6, none⟩ = some (.int .i64 p.f6)) (ds := []) #[false, false, false, false, false, false, false, false, false, false, false, false, false, false, false, false, false, false, false, false, false, false, false, false, false, false, false, false, false, false, false] (by kernel_rfl) rfl rfl ⟨c0', e0, e1, e2, e3, e4, e5, e6⟩ (fun hHeld => ?_)
  generalize w1.drew = wd at *
  refine pure_ (i := 0) (N := (some 12)) (v := ?_) (a' := ?_) #[true, false, false, false, false, false, false, false, false, false, false, false, false, false, false, false, false, false, false, false, false, false, false, false, false, false, false, false, false, false, false] rfl rfl (by kernel_rfl) (fun _ _ _ h => h) (Or.inl ⟨by rfl, ?_⟩) ?_ ?_
  rotate_left
  · intro w'
    go_simp
    with_reducible rfl
  rotate_left
  · simp only [Act.put, List.setIfInBounds_toArray, List.set_cons_zero, List.set_cons_succ, i64_w, i32_w]
    rfl
  refine pure_ (i := 1) (N := (some 13)) (v := ?_) (a' := ?_) #[true, true, false, false, false, false, false, false, false, false, false, false, false, false, false, false, false, false, false, false, false, false, false, false, false, false, false, false, false, false, false] rfl rfl (by kernel_rfl) (fun _ _ _ h => h) (Or.inl ⟨by rfl, ?_⟩) ?_ ?_
  rotate_left
  · intro w'
    go_simp
    with_reducible rfl
  rotate_left
  · simp only [Act.put, List.setIfInBounds_toArray, List.set_cons_zero, List.set_cons_succ, i64_w, i32_w]
    rfl
  refine pure_ (i := 2) (N := (some 14)) (v := ?_) (a' := ?_) #[true, true, true, false, false, false, false, false, false, false, false, false, false, false, false, false, false, false, false, false, false, false, false, false, false, false, false, false, false, false, false] rfl rfl (by kernel_rfl) (fun _ _ _ h => h) (Or.inl ⟨by rfl, ?_⟩) ?_ ?_
  rotate_left
  · intro w'
    go_simp
    with_reducible rfl
  rotate_left
  · simp only [Act.put, List.setIfInBounds_toArray, List.set_cons_zero, List.set_cons_succ, i64_w, i32_w]
    rfl
  refine take_ (i := 3) (N := (some 15)) (v := ?_) (a' := ?_) #[true, true, true, true, false, false, false, false, false, false, false, false, false, false, false, false, false, false, false, false, false, false, false, false, false, false, false, false, false, false, false] rfl rfl (by kernel_rfl) (fun _ _ _ h => h) (Or.inl ⟨by rfl, ?_⟩) hHeld ?_ ?_
  rotate_left
  · rintro w' ⟨s0, s1, s2, s3, s4, s5, s6, s7⟩
    go_simp
    with_reducible rfl
  rotate_left
  · simp only [Act.put, List.setIfInBounds_toArray, List.set_cons_zero, List.set_cons_succ, i64_w, i32_w]
    rfl
  refine pure_ (i := 4) (N := (some 16)) (v := ?_) (a' := ?_) #[true, true, true, true, true, false, false, false, false, false, false, false, false, false, false, false, false, false, false, false, false, false, false, false, false, false, false, false, false, false, false] rfl rfl (by kernel_rfl) (fun _ _ _ h => h) (Or.inl ⟨by rfl, ?_⟩) ?_ ?_
  rotate_left
  · intro w'
    go_simp
    with_reducible rfl
  rotate_left
  · simp only [Act.put, List.setIfInBounds_toArray, List.set_cons_zero, List.set_cons_succ, i64_w, i32_w]
    rfl
  refine pure_ (i := 5) (N := (some 17)) (v := ?_) (a' := ?_) #[true, true, true, true, true, true, false, false, false, false, false, false, false, false, false, false, false, false, false, false, false, false, false, false, false, false, false, false, false, false, false] rfl rfl (by kernel_rfl) (fun _ _ _ h => h) (Or.inl ⟨by rfl, ?_⟩) ?_ ?_
  rotate_left
  · intro w'
    go_simp
    with_reducible rfl
  rotate_left
  · simp only [Act.put, List.setIfInBounds_toArray, List.set_cons_zero, List.set_cons_succ, i64_w, i32_w]
    rfl
  refine pure_ (i := 6) (N := (some 18)) (v := ?_) (a' := ?_) #[true, true, true, true, true, true, true, false, false, false, false, false, false, false, false, false, false, false, false, false, false, false, false, false, false, false, false, false, false, false, false] rfl rfl (by kernel_rfl) (fun _ _ _ h => h) (Or.inl ⟨by rfl, ?_⟩) ?_ ?_
  rotate_left
  · intro w'
    go_simp
    with_reducible rfl
  rotate_left
  · simp only [Act.put, List.setIfInBounds_toArray, List.set_cons_zero, List.set_cons_succ, i64_w, i32_w]
    rfl
  refine pure_ (i := 7) (N := (some 19)) (v := ?_) (a' := ?_) #[true, true, true, true, true, true, true, true, false, false, false, false, false, false, false, false, false, false, false, false, false, false, false, false, false, false, false, false, false, false, false] rfl rfl (by kernel_rfl) (fun _ _ _ h => h) (Or.inl ⟨by rfl, ?_⟩) ?_ ?_
  rotate_left
  · intro w'
    go_simp
    with_reducible rfl
  rotate_left
  · simp only [Act.put, List.setIfInBounds_toArray, List.set_cons_zero, List.set_cons_succ, i64_w, i32_w]
    rfl
  refine take_ (i := 8) (N := (some 20)) (v := ?_) (a' := ?_) #[true, true, true, true, true, true, true, true, true, false, false, false, false, false, false, false, false, false, false, false, false, false, false, false, false, false, false, false, false, false, false] rfl rfl (by kernel_rfl) (fun _ _ _ h => h) (Or.inl ⟨by rfl, ?_⟩) hHeld ?_ ?_
  rotate_left
  · rintro w' ⟨s0, s1, s2, s3, s4, s5, s6, s7⟩
    go_simp
    with_reducible rfl
  rotate_left
  · simp only [Act.put, List.setIfInBounds_toArray, List.set_cons_zero, List.set_cons_succ, i64_w, i32_w]
    rfl
  refine one_ (i := 9) (N := (some 21)) #[true, true, true, true, true, true, true, true, true, true, false, false, false, false, false, false, false, false, false, false, false, false, false, false, false, false, false, false, false, false, false] rfl rfl (by kernel_rfl) (by decide) (fun K hK => ?_)
  refine goes_ Try.func40 (by kernel_rfl) rfl #[.agg #[.int .i64 p.f0, .int .i64 p.f1, .int .i64 p.f2, .int .i64 p.f3, .int .i64 p.f4, .int .i64 p.f5, .int .i64 p.f6], .int .i64 acc] (by rfl) rfl rfl (by (try simp only [List.map_toArray, List.map_cons, List.map_nil]); first | done | rfl) ?_
  refine (formed_walk' acc p true hf _).mono ?_
  rintro e w2 ⟨rfl, hb1⟩
  refine ⟨_, rfl, ?_⟩
  refine hK.out _ _ ⟨keepB hb1 hHeld.1, keepB hb1 hHeld.2.1, keepB hb1 hHeld.2.2.1, keepB hb1 hHeld.2.2.2.1, keepB hb1 hHeld.2.2.2.2.1, keepB hb1 hHeld.2.2.2.2.2.1, keepB hb1 hHeld.2.2.2.2.2.2.1, keepB hb1 hHeld.2.2.2.2.2.2.2⟩ (fun hHeld => ?_)
  clear hK K
  refine norm_ (a' := ?_) ?_ ?_
  rotate_left
  · show Act.put _ (some 21) _ = _
    simp only [Act.put, List.setIfInBounds_toArray, List.set_cons_zero, List.set_cons_succ, i64_w, i32_w]
    rfl
  refine pure_ (i := 10) (N := (some 22)) (v := ?_) (a' := ?_) #[true, true, true, true, true, true, true, true, true, true, true, false, false, false, false, false, false, false, false, false, false, false, false, false, false, false, false, false, false, false, false] rfl rfl (by kernel_rfl) (fun _ _ _ h => h) (Or.inl ⟨by rfl, ?_⟩) ?_ ?_
  rotate_left
  · intro w'
    go_simp
    with_reducible rfl
  rotate_left
  · simp only [Act.put, List.setIfInBounds_toArray, List.set_cons_zero, List.set_cons_succ, i64_w, i32_w]
    rfl
  refine pure_ (i := 11) (N := (some 23)) (v := ?_) (a' := ?_) #[true, true, true, true, true, true, true, true, true, true, true, true, false, false, false, false, false, false, false, false, false, false, false, false, false, false, false, false, false, false, false] rfl rfl (by kernel_rfl) (fun _ _ _ h => h) (Or.inl ⟨by rfl, ?_⟩) ?_ ?_
  rotate_left
  · intro w'
    go_simp
    with_reducible rfl
  rotate_left
  · simp only [Act.put, List.setIfInBounds_toArray, List.set_cons_zero, List.set_cons_succ, i64_w, i32_w]
    rfl
  refine pure_ (i := 12) (N := (some 24)) (v := ?_) (a' := ?_) #[true, true, true, true, true, true, true, true, true, true, true, true, true, false, false, false, false, false, false, false, false, false, false, false, false, false, false, false, false, false, false] rfl rfl (by kernel_rfl) (fun _ _ _ h => h) (Or.inl ⟨by rfl, ?_⟩) ?_ ?_
  rotate_left
  · intro w'
    go_simp
    with_reducible rfl
  rotate_left
  · simp only [Act.put, List.setIfInBounds_toArray, List.set_cons_zero, List.set_cons_succ, i64_w, i32_w]
    rfl
  refine pure_ (i := 13) (N := (some 25)) (v := ?_) (a' := ?_) #[true, true, true, true, true, true, true, true, true, true, true, true, true, true, false, false, false, false, false, false, false, false, false, false, false, false, false, false, false, false, false] rfl rfl (by kernel_rfl) (fun _ _ _ h => h) (Or.inl ⟨by rfl, ?_⟩) ?_ ?_
  rotate_left
  · intro w'
    go_simp
    with_reducible rfl
  rotate_left
  · simp only [Act.put, List.setIfInBounds_toArray, List.set_cons_zero, List.set_cons_succ, i64_w, i32_w]
    rfl
  refine pure_ (i := 14) (N := (some 26)) (v := ?_) (a' := ?_) #[true, true, true, true, true, true, true, true, true, true, true, true, true, true, true, false, false, false, false, false, false, false, false, false, false, false, false, false, false, false, false] rfl rfl (by kernel_rfl) (fun _ _ _ h => h) (Or.inl ⟨by rfl, ?_⟩) ?_ ?_
  rotate_left
  · intro w'
    go_simp
    with_reducible rfl
  rotate_left
  · simp only [Act.put, List.setIfInBounds_toArray, List.set_cons_zero, List.set_cons_succ, i64_w, i32_w]
    rfl
  refine pure_ (i := 15) (N := (some 27)) (v := ?_) (a' := ?_) #[true, true, true, true, true, true, true, true, true, true, true, true, true, true, true, true, false, false, false, false, false, false, false, false, false, false, false, false, false, false, false] rfl rfl (by kernel_rfl) (fun _ _ _ h => h) (Or.inl ⟨by rfl, ?_⟩) ?_ ?_
  rotate_left
  · intro w'
    go_simp
    with_reducible rfl
  rotate_left
  · simp only [Act.put, List.setIfInBounds_toArray, List.set_cons_zero, List.set_cons_succ, i64_w, i32_w]
    rfl
  refine pure_ (i := 16) (N := (some 28)) (v := undef) (a' := ?_) #[true, true, true, true, true, true, true, true, true, true, true, true, true, true, true, true, true, false, false, false, false, false, false, false, false, false, false, false, false, false, false] rfl rfl (by kernel_rfl) (fun _ _ _ h => h) (Or.inr ⟨by rfl, rfl⟩) ?_ ?_
  rotate_left
  · simp only [Act.put, List.setIfInBounds_toArray, List.set_cons_zero, List.set_cons_succ, i64_w, i32_w]
    rfl
  refine pure_ (i := 17) (N := (some 29)) (v := undef) (a' := ?_) #[true, true, true, true, true, true, true, true, true, true, true, true, true, true, true, true, true, true, false, false, false, false, false, false, false, false, false, false, false, false, false] rfl rfl (by kernel_rfl) (fun _ _ _ h => h) (Or.inr ⟨by rfl, rfl⟩) ?_ ?_
  rotate_left
  · simp only [Act.put, List.setIfInBounds_toArray, List.set_cons_zero, List.set_cons_succ, i64_w, i32_w]
    rfl
  refine pure_ (i := 18) (N := (some 30)) (v := undef) (a' := ?_) #[true, true, true, true, true, true, true, true, true, true, true, true, true, true, true, true, true, true, true, false, false, false, false, false, false, false, false, false, false, false, false] rfl rfl (by kernel_rfl) (fun _ _ _ h => h) (Or.inr ⟨by rfl, rfl⟩) ?_ ?_
  rotate_left
  · simp only [Act.put, List.setIfInBounds_toArray, List.set_cons_zero, List.set_cons_succ, i64_w, i32_w]
    rfl
  refine pure_ (i := 19) (N := (some 31)) (v := undef) (a' := ?_) #[true, true, true, true, true, true, true, true, true, true, true, true, true, true, true, true, true, true, true, true, false, false, false, false, false, false, false, false, false, false, false] rfl rfl (by kernel_rfl) (fun _ _ _ h => h) (Or.inr ⟨by rfl, rfl⟩) ?_ ?_
  rotate_left
  · simp only [Act.put, List.setIfInBounds_toArray, List.set_cons_zero, List.set_cons_succ, i64_w, i32_w]
    rfl
  refine pure_ (i := 20) (N := (some 32)) (v := undef) (a' := ?_) #[true, true, true, true, true, true, true, true, true, true, true, true, true, true, true, true, true, true, true, true, true, false, false, false, false, false, false, false, false, false, false] rfl rfl (by kernel_rfl) (fun _ _ _ h => h) (Or.inr ⟨by rfl, rfl⟩) ?_ ?_
  rotate_left
  · simp only [Act.put, List.setIfInBounds_toArray, List.set_cons_zero, List.set_cons_succ, i64_w, i32_w]
    rfl
  refine pure_ (i := 21) (N := (some 33)) (v := undef) (a' := ?_) #[true, true, true, true, true, true, true, true, true, true, true, true, true, true, true, true, true, true, true, true, true, true, false, false, false, false, false, false, false, false, false] rfl rfl (by kernel_rfl) (fun _ _ _ h => h) (Or.inr ⟨by rfl, rfl⟩) ?_ ?_
  rotate_left
  · simp only [Act.put, List.setIfInBounds_toArray, List.set_cons_zero, List.set_cons_succ, i64_w, i32_w]
    rfl
  refine pure_ (i := 22) (N := (some 34)) (v := undef) (a' := ?_) #[true, true, true, true, true, true, true, true, true, true, true, true, true, true, true, true, true, true, true, true, true, true, true, false, false, false, false, false, false, false, false] rfl rfl (by kernel_rfl) (fun _ _ _ h => h) (Or.inr ⟨by rfl, rfl⟩) ?_ ?_
  rotate_left
  · simp only [Act.put, List.setIfInBounds_toArray, List.set_cons_zero, List.set_cons_succ, i64_w, i32_w]
    rfl
  refine pure_ (i := 23) (N := (some 35)) (v := undef) (a' := ?_) #[true, true, true, true, true, true, true, true, true, true, true, true, true, true, true, true, true, true, true, true, true, true, true, true, false, false, false, false, false, false, false] rfl rfl (by kernel_rfl) (fun _ _ _ h => h) (Or.inr ⟨by rfl, rfl⟩) ?_ ?_
  rotate_left
  · simp only [Act.put, List.setIfInBounds_toArray, List.set_cons_zero, List.set_cons_succ, i64_w, i32_w]
    rfl
  refine pure_ (i := 24) (N := (some 36)) (v := undef) (a' := ?_) #[true, true, true, true, true, true, true, true, true, true, true, true, true, true, true, true, true, true, true, true, true, true, true, true, true, false, false, false, false, false, false] rfl rfl (by kernel_rfl) (fun _ _ _ h => h) (Or.inr ⟨by rfl, rfl⟩) ?_ ?_
  rotate_left
  · simp only [Act.put, List.setIfInBounds_toArray, List.set_cons_zero, List.set_cons_succ, i64_w, i32_w]
    rfl
  refine pure_ (i := 25) (N := (some 37)) (v := undef) (a' := ?_) #[true, true, true, true, true, true, true, true, true, true, true, true, true, true, true, true, true, true, true, true, true, true, true, true, true, true, false, false, false, false, false] rfl rfl (by kernel_rfl) (fun _ _ _ h => h) (Or.inr ⟨by rfl, rfl⟩) ?_ ?_
  rotate_left
  · simp only [Act.put, List.setIfInBounds_toArray, List.set_cons_zero, List.set_cons_succ, i64_w, i32_w]
    rfl
  refine pure_ (i := 26) (N := (some 38)) (v := undef) (a' := ?_) #[true, true, true, true, true, true, true, true, true, true, true, true, true, true, true, true, true, true, true, true, true, true, true, true, true, true, true, false, false, false, false] rfl rfl (by kernel_rfl) (fun _ _ _ h => h) (Or.inr ⟨by rfl, rfl⟩) ?_ ?_
  rotate_left
  · simp only [Act.put, List.setIfInBounds_toArray, List.set_cons_zero, List.set_cons_succ, i64_w, i32_w]
    rfl
  refine pure_ (i := 27) (N := (some 39)) (v := undef) (a' := ?_) #[true, true, true, true, true, true, true, true, true, true, true, true, true, true, true, true, true, true, true, true, true, true, true, true, true, true, true, true, false, false, false] rfl rfl (by kernel_rfl) (fun _ _ _ h => h) (Or.inr ⟨by rfl, rfl⟩) ?_ ?_
  rotate_left
  · simp only [Act.put, List.setIfInBounds_toArray, List.set_cons_zero, List.set_cons_succ, i64_w, i32_w]
    rfl
  refine pure_ (i := 28) (N := (some 40)) (v := undef) (a' := ?_) #[true, true, true, true, true, true, true, true, true, true, true, true, true, true, true, true, true, true, true, true, true, true, true, true, true, true, true, true, true, false, false] rfl rfl (by kernel_rfl) (fun _ _ _ h => h) (Or.inr ⟨by rfl, rfl⟩) ?_ ?_
  rotate_left
  · simp only [Act.put, List.setIfInBounds_toArray, List.set_cons_zero, List.set_cons_succ, i64_w, i32_w]
    rfl
  refine pure_ (i := 29) (N := (some 41)) (v := ?_) (a' := ?_) #[true, true, true, true, true, true, true, true, true, true, true, true, true, true, true, true, true, true, true, true, true, true, true, true, true, true, true, true, true, true, false] rfl rfl (by kernel_rfl) (fun _ _ _ h => h) (Or.inl ⟨by rfl, ?_⟩) ?_ ?_
  rotate_left
  · intro w'
    go_simp
    with_reducible rfl
  rotate_left
  · simp only [Act.put, List.setIfInBounds_toArray, List.set_cons_zero, List.set_cons_succ, i64_w, i32_w]
    rfl
  refine pure_ (i := 30) (N := (some 42)) (v := ?_) (a' := ?_) #[true, true, true, true, true, true, true, true, true, true, true, true, true, true, true, true, true, true, true, true, true, true, true, true, true, true, true, true, true, true, true] rfl rfl (by kernel_rfl) (fun _ _ _ h => h) (Or.inl ⟨by rfl, ?_⟩) ?_ ?_
  rotate_left
  · intro w'
    go_simp
    with_reducible rfl
  rotate_left
  · simp only [Act.put, List.setIfInBounds_toArray, List.set_cons_zero, List.set_cons_succ, i64_w, i32_w]
    rfl
  refine done_ (by kernel_rfl) ?_
  have hbw2 : Below w.heap.size w w2.drew := below_drew1 (Below.trans hbw (hb1.mono hbw.size))
  have HB8 : Below ws.heap.size ws w2.drew := Below.trans hbel (hbw2.mono hbel.size)
  have HL8 := hB.belowS hbw2
  have g0 : w2.drew.cell? ⟨w.heap.size, 0, none⟩ = some (.int .i64 p.f0) := hHeld.2.1
  have g1 : w2.drew.cell? ⟨w.heap.size, 1, none⟩ = some (.int .i64 p.f1) := hHeld.2.2.1
  have g2 : w2.drew.cell? ⟨w.heap.size, 2, none⟩ = some (.int .i64 p.f2) := hHeld.2.2.2.1
  have g3 : w2.drew.cell? ⟨w.heap.size, 3, none⟩ = some (.int .i64 p.f3) := hHeld.2.2.2.2.1
  have g4 : w2.drew.cell? ⟨w.heap.size, 4, none⟩ = some (.int .i64 p.f4) := hHeld.2.2.2.2.2.1
  have g5 : w2.drew.cell? ⟨w.heap.size, 5, none⟩ = some (.int .i64 p.f5) := hHeld.2.2.2.2.2.2.1
  have g6 : w2.drew.cell? ⟨w.heap.size, 6, none⟩ = some (.int .i64 p.f6) := hHeld.2.2.2.2.2.2.2
  have gk : w2.cell? ⟨w.heap.size, 0, none⟩ = some (.int .i64 p.f0) := g0
  rw [HO.out] at g6
  clear hHeld c0' c1' e0 e1 e2 e3 e4 e5 e6 hw1
  go_wp2
  have hx1 : decide ((0 : Int) ≤ (o : Int)) = true := decide_eq_true (by omega)
  refine start_ (n := 27) (S := fun w' => w'.cell? ⟨w.heap.size, 6, none⟩ = some (.int .i64 (o : Int))) (ds := []) #[false, false, false, false, false, false, false, false, false, false, false, false, false, false, false, false, false, false, false, false, false, false, false, false, false, false, false] (by kernel_rfl) rfl rfl (g6) (fun hHeld => ?_)
  generalize w2.drew = wd2 at *
  refine pure_ (i := 0) (N := some 46) (v := ?_) (a' := ?_) #[true, false, false, false, false, false, false, false, false, false, false, false, false, false, false, false, false, false, false, false, false, false, false, false, false, false, false] rfl rfl (by kernel_rfl) (fun _ _ _ h => h) (Or.inl ⟨by rfl, ?_⟩) ?_ ?_
  rotate_left
  · intro w'
    go_simp
    with_reducible rfl
  rotate_left
  · simp only [Act.put, List.setIfInBounds_toArray, List.set_cons_zero, List.set_cons_succ, i64_w, i32_w]
    rfl
  refine pure_ (i := 2) (N := some 48) (v := ?_) (a' := ?_) #[true, false, true, false, false, false, false, false, false, false, false, false, false, false, false, false, false, false, false, false, false, false, false, false, false, false, false] rfl rfl (by kernel_rfl) (fun _ _ _ h => h) (Or.inl ⟨by rfl, ?_⟩) ?_ ?_
  rotate_left
  · intro w'
    go_simp
    with_reducible rfl
  rotate_left
  · simp only [Act.put, List.setIfInBounds_toArray, List.set_cons_zero, List.set_cons_succ, i64_w, i32_w]
    rfl
  refine take_ (i := 1) (N := some 47) (v := ?_) (a' := ?_) #[true, true, true, false, false, false, false, false, false, false, false, false, false, false, false, false, false, false, false, false, false, false, false, false, false, false, false] rfl rfl (by kernel_rfl) (fun _ _ _ h => h) (Or.inl ⟨by rfl, ?_⟩) hHeld ?_ ?_
  rotate_left
  · intro w' s0
    go_simp
    with_reducible rfl
  rotate_left
  · simp only [Act.put, List.setIfInBounds_toArray, List.set_cons_zero, List.set_cons_succ, i64_w, i32_w]
    rfl
  refine pure_ (i := 3) (N := some 49) (v := ?_) (a' := ?_) #[true, true, true, true, false, false, false, false, false, false, false, false, false, false, false, false, false, false, false, false, false, false, false, false, false, false, false] rfl rfl (by kernel_rfl) (fun _ _ _ h => h) (Or.inl ⟨by rfl, ?_⟩) ?_ ?_
  rotate_left
  · intro w'
    go_simp
    with_reducible rfl
  rotate_left
  · simp only [Act.put, List.setIfInBounds_toArray, List.set_cons_zero, List.set_cons_succ, i64_w, i32_w]
    rfl
  refine pure_ (i := 4) (N := some 50) (v := ?_) (a' := ?_) #[true, true, true, true, true, false, false, false, false, false, false, false, false, false, false, false, false, false, false, false, false, false, false, false, false, false, false] rfl rfl (by kernel_rfl) (fun _ _ _ h => h) (Or.inl ⟨by rfl, ?_⟩) ?_ ?_
  rotate_left
  · intro w'
    go_simp
    with_reducible rfl
  rotate_left
  · simp only [Act.put, List.setIfInBounds_toArray, List.set_cons_zero, List.set_cons_succ, i64_w, i32_w]
    rfl
  refine pure_ (i := 5) (N := some 51) (v := undef) (a' := ?_) #[true, true, true, true, true, true, false, false, false, false, false, false, false, false, false, false, false, false, false, false, false, false, false, false, false, false, false] rfl rfl (by kernel_rfl) (fun _ _ _ h => h) (Or.inr ⟨by rfl, rfl⟩) ?_ ?_
  rotate_left
  · simp only [Act.put, List.setIfInBounds_toArray, List.set_cons_zero, List.set_cons_succ, i64_w, i32_w]
    rfl
  refine pure_ (i := 6) (N := some 52) (v := undef) (a' := ?_) #[true, true, true, true, true, true, true, false, false, false, false, false, false, false, false, false, false, false, false, false, false, false, false, false, false, false, false] rfl rfl (by kernel_rfl) (fun _ _ _ h => h) (Or.inr ⟨by rfl, rfl⟩) ?_ ?_
  rotate_left
  · simp only [Act.put, List.setIfInBounds_toArray, List.set_cons_zero, List.set_cons_succ, i64_w, i32_w]
    rfl
  refine pure_ (i := 7) (N := some 53) (v := undef) (a' := ?_) #[true, true, true, true, true, true, true, true, false, false, false, false, false, false, false, false, false, false, false, false, false, false, false, false, false, false, false] rfl rfl (by kernel_rfl) (fun _ _ _ h => h) (Or.inr ⟨by rfl, rfl⟩) ?_ ?_
  rotate_left
  · simp only [Act.put, List.setIfInBounds_toArray, List.set_cons_zero, List.set_cons_succ, i64_w, i32_w]
    rfl
  refine pure_ (i := 8) (N := some 54) (v := undef) (a' := ?_) #[true, true, true, true, true, true, true, true, true, false, false, false, false, false, false, false, false, false, false, false, false, false, false, false, false, false, false] rfl rfl (by kernel_rfl) (fun _ _ _ h => h) (Or.inr ⟨by rfl, rfl⟩) ?_ ?_
  rotate_left
  · simp only [Act.put, List.setIfInBounds_toArray, List.set_cons_zero, List.set_cons_succ, i64_w, i32_w]
    rfl
  refine pure_ (i := 9) (N := some 55) (v := undef) (a' := ?_) #[true, true, true, true, true, true, true, true, true, true, false, false, false, false, false, false, false, false, false, false, false, false, false, false, false, false, false] rfl rfl (by kernel_rfl) (fun _ _ _ h => h) (Or.inr ⟨by rfl, rfl⟩) ?_ ?_
  rotate_left
  · simp only [Act.put, List.setIfInBounds_toArray, List.set_cons_zero, List.set_cons_succ, i64_w, i32_w]
    rfl
  refine pure_ (i := 10) (N := some 56) (v := undef) (a' := ?_) #[true, true, true, true, true, true, true, true, true, true, true, false, false, false, false, false, false, false, false, false, false, false, false, false, false, false, false] rfl rfl (by kernel_rfl) (fun _ _ _ h => h) (Or.inr ⟨by rfl, rfl⟩) ?_ ?_
  rotate_left
  · simp only [Act.put, List.setIfInBounds_toArray, List.set_cons_zero, List.set_cons_succ, i64_w, i32_w]
    rfl
  refine pure_ (i := 11) (N := some 57) (v := undef) (a' := ?_) #[true, true, true, true, true, true, true, true, true, true, true, true, false, false, false, false, false, false, false, false, false, false, false, false, false, false, false] rfl rfl (by kernel_rfl) (fun _ _ _ h => h) (Or.inr ⟨by rfl, rfl⟩) ?_ ?_
  rotate_left
  · simp only [Act.put, List.setIfInBounds_toArray, List.set_cons_zero, List.set_cons_succ, i64_w, i32_w]
    rfl
  refine pure_ (i := 12) (N := some 58) (v := ?_) (a' := ?_) #[true, true, true, true, true, true, true, true, true, true, true, true, true, false, false, false, false, false, false, false, false, false, false, false, false, false, false] rfl rfl (by kernel_rfl) (fun _ _ _ h => h) (Or.inl ⟨by rfl, ?_⟩) ?_ ?_
  rotate_left
  · intro w'
    go_simp
    with_reducible rfl
  rotate_left
  · simp only [Act.put, List.setIfInBounds_toArray, List.set_cons_zero, List.set_cons_succ, i64_w, i32_w]
    rfl
  refine pure_ (i := 13) (N := some 59) (v := ?_) (a' := ?_) #[true, true, true, true, true, true, true, true, true, true, true, true, true, true, false, false, false, false, false, false, false, false, false, false, false, false, false] rfl rfl (by kernel_rfl) (fun _ _ _ h => h) (Or.inl ⟨by rfl, ?_⟩) ?_ ?_
  rotate_left
  · intro w'
    go_simp
    with_reducible rfl
  rotate_left
  · simp only [Act.put, List.setIfInBounds_toArray, List.set_cons_zero, List.set_cons_succ, i64_w, i32_w]
    rfl
  refine pure_ (i := 14) (N := some 60) (v := undef) (a' := ?_) #[true, true, true, true, true, true, true, true, true, true, true, true, true, true, true, false, false, false, false, false, false, false, false, false, false, false, false] rfl rfl (by kernel_rfl) (fun _ _ _ h => h) (Or.inr ⟨by rfl, rfl⟩) ?_ ?_
  rotate_left
  · simp only [Act.put, List.setIfInBounds_toArray, List.set_cons_zero, List.set_cons_succ, i64_w, i32_w]
    rfl
  refine pure_ (i := 15) (N := some 61) (v := undef) (a' := ?_) #[true, true, true, true, true, true, true, true, true, true, true, true, true, true, true, true, false, false, false, false, false, false, false, false, false, false, false] rfl rfl (by kernel_rfl) (fun _ _ _ h => h) (Or.inr ⟨by rfl, rfl⟩) ?_ ?_
  rotate_left
  · simp only [Act.put, List.setIfInBounds_toArray, List.set_cons_zero, List.set_cons_succ, i64_w, i32_w]
    rfl
  refine pure_ (i := 16) (N := some 62) (v := undef) (a' := ?_) #[true, true, true, true, true, true, true, true, true, true, true, true, true, true, true, true, true, false, false, false, false, false, false, false, false, false, false] rfl rfl (by kernel_rfl) (fun _ _ _ h => h) (Or.inr ⟨by rfl, rfl⟩) ?_ ?_
  rotate_left
  · simp only [Act.put, List.setIfInBounds_toArray, List.set_cons_zero, List.set_cons_succ, i64_w, i32_w]
    rfl
  refine pure_ (i := 17) (N := some 63) (v := undef) (a' := ?_) #[true, true, true, true, true, true, true, true, true, true, true, true, true, true, true, true, true, true, false, false, false, false, false, false, false, false, false] rfl rfl (by kernel_rfl) (fun _ _ _ h => h) (Or.inr ⟨by rfl, rfl⟩) ?_ ?_
  rotate_left
  · simp only [Act.put, List.setIfInBounds_toArray, List.set_cons_zero, List.set_cons_succ, i64_w, i32_w]
    rfl
  refine pure_ (i := 18) (N := some 64) (v := undef) (a' := ?_) #[true, true, true, true, true, true, true, true, true, true, true, true, true, true, true, true, true, true, true, false, false, false, false, false, false, false, false] rfl rfl (by kernel_rfl) (fun _ _ _ h => h) (Or.inr ⟨by rfl, rfl⟩) ?_ ?_
  rotate_left
  · simp only [Act.put, List.setIfInBounds_toArray, List.set_cons_zero, List.set_cons_succ, i64_w, i32_w]
    rfl
  refine pure_ (i := 19) (N := some 65) (v := undef) (a' := ?_) #[true, true, true, true, true, true, true, true, true, true, true, true, true, true, true, true, true, true, true, true, false, false, false, false, false, false, false] rfl rfl (by kernel_rfl) (fun _ _ _ h => h) (Or.inr ⟨by rfl, rfl⟩) ?_ ?_
  rotate_left
  · simp only [Act.put, List.setIfInBounds_toArray, List.set_cons_zero, List.set_cons_succ, i64_w, i32_w]
    rfl
  refine pure_ (i := 20) (N := some 66) (v := undef) (a' := ?_) #[true, true, true, true, true, true, true, true, true, true, true, true, true, true, true, true, true, true, true, true, true, false, false, false, false, false, false] rfl rfl (by kernel_rfl) (fun _ _ _ h => h) (Or.inr ⟨by rfl, rfl⟩) ?_ ?_
  rotate_left
  · simp only [Act.put, List.setIfInBounds_toArray, List.set_cons_zero, List.set_cons_succ, i64_w, i32_w]
    rfl
  refine pure_ (i := 21) (N := some 67) (v := undef) (a' := ?_) #[true, true, true, true, true, true, true, true, true, true, true, true, true, true, true, true, true, true, true, true, true, true, false, false, false, false, false] rfl rfl (by kernel_rfl) (fun _ _ _ h => h) (Or.inr ⟨by rfl, rfl⟩) ?_ ?_
  rotate_left
  · simp only [Act.put, List.setIfInBounds_toArray, List.set_cons_zero, List.set_cons_succ, i64_w, i32_w]
    rfl
  refine pure_ (i := 22) (N := some 68) (v := undef) (a' := ?_) #[true, true, true, true, true, true, true, true, true, true, true, true, true, true, true, true, true, true, true, true, true, true, true, false, false, false, false] rfl rfl (by kernel_rfl) (fun _ _ _ h => h) (Or.inr ⟨by rfl, rfl⟩) ?_ ?_
  rotate_left
  · simp only [Act.put, List.setIfInBounds_toArray, List.set_cons_zero, List.set_cons_succ, i64_w, i32_w]
    rfl
  refine pure_ (i := 23) (N := some 69) (v := undef) (a' := ?_) #[true, true, true, true, true, true, true, true, true, true, true, true, true, true, true, true, true, true, true, true, true, true, true, true, false, false, false] rfl rfl (by kernel_rfl) (fun _ _ _ h => h) (Or.inr ⟨by rfl, rfl⟩) ?_ ?_
  rotate_left
  · simp only [Act.put, List.setIfInBounds_toArray, List.set_cons_zero, List.set_cons_succ, i64_w, i32_w]
    rfl
  refine pure_ (i := 24) (N := some 70) (v := undef) (a' := ?_) #[true, true, true, true, true, true, true, true, true, true, true, true, true, true, true, true, true, true, true, true, true, true, true, true, true, false, false] rfl rfl (by kernel_rfl) (fun _ _ _ h => h) (Or.inr ⟨by rfl, rfl⟩) ?_ ?_
  rotate_left
  · simp only [Act.put, List.setIfInBounds_toArray, List.set_cons_zero, List.set_cons_succ, i64_w, i32_w]
    rfl
  refine pure_ (i := 25) (N := some 71) (v := undef) (a' := ?_) #[true, true, true, true, true, true, true, true, true, true, true, true, true, true, true, true, true, true, true, true, true, true, true, true, true, true, false] rfl rfl (by kernel_rfl) (fun _ _ _ h => h) (Or.inr ⟨by rfl, rfl⟩) ?_ ?_
  rotate_left
  · simp only [Act.put, List.setIfInBounds_toArray, List.set_cons_zero, List.set_cons_succ, i64_w, i32_w]
    rfl
  refine pure_ (i := 26) (N := some 72) (v := ?_) (a' := ?_) #[true, true, true, true, true, true, true, true, true, true, true, true, true, true, true, true, true, true, true, true, true, true, true, true, true, true, true] rfl rfl (by kernel_rfl) (fun _ _ _ h => h) (Or.inl ⟨by rfl, ?_⟩) ?_ ?_
  rotate_left
  · intro w'
    go_simp
    with_reducible rfl
  rotate_left
  · simp only [Act.put, List.setIfInBounds_toArray, List.set_cons_zero, List.set_cons_succ, i64_w, i32_w]
    rfl
  refine done_ (by kernel_rfl) ?_
  go_wp2
  go_ret
  exact ⟨rfl, hbw2⟩
end Go.Proofs.Ytooogaogbffjfaa.Ext
end
