import Derived.Test.YtooogaogbffjfaaDoorMBookHeadsMatchReferenceah
import Derived.Test.YtooogaogbffjfaaDoorMBookHeadsMatchReferenceai
import Derived.Test.YtooogaogbffjfaaDoorMBookHeadsMatchReferenceac
import Derived.BigQuiet
import Derived.StillTailTactics
import Derived.Deep.LoopGhost
/-
  Texts of this claim, one behind the other: what they prove stands above each.
-/
section
set_option linter.unusedVariables false
set_option linter.unusedSimpArgs false
namespace Go.Proofs.YtooogaogbffjfaaDoor.Ext
set_option maxRecDepth 100000
open Go.RowKit Go.Proofs.YtooogaogbffjfaaDoorW.PrintWords Go.Proofs.YtooogaogbffjfaaDoorW.PrintLast Go.Proofs.YtooogaogbffjfaaDoorW.PrintMore Go.Proofs.YtooogaogbffjfaaDoor.PK Go.Proofs.YtooogaogbffjfaaDoor.Bk
attribute [local go_sem] Oper.semAt_some
set_option maxRecDepth 100000 in
set_option maxHeartbeats 4000000 in
theorem takes_back (ws : World) (B : Nat) (acc clo : Int) (ad : Addr) (c n m o : Nat) (hnm : n = m + 1) (bk : List Bool) (ps : List S27) (p q : S27) (w : World) (hbel : Below ws.heap.size ws w) (hBb : ws.heap.size ≤ B) (hB : Led w B acc (.slice (some ad) n c) clo bk) (hR : Kd.R k27 27 w ws.heap.size (fun _ => True) (.slice (some ad) n c) ps) (hps : ps.length ≤ 1000) (hneB : some B ≠ (Value.slice (some ad) n c).ownBlock) (hn : n < 200) (hf : formedB acc p = true) (hq : w.cell? ⟨(ad.add (m * 7)).block, (ad.add (m * 7)).off + 1, none⟩ = some (.int .i64 q.f1)) (hday : ¬ p.f1 < q.f1) (hk : p.f0 = 3) (ho : p.f6 = (o : Int)) (hon : o < n) (hbk : bk[o]? = some false) (hu : isBackB p (rd_T27 ps (o : Int)) = true) :
    Calls Tryd.prog 51 #[.pointer (some ⟨B, 0, none⟩), pv p] w fun e w' => e = .returned (.bool true) ∧ Below ws.heap.size ws w' ∧ ∃ v', Led w' B acc v' clo (bk.set o true) ∧ Kd.R k27 27 w' ws.heap.size (fun _ => True) v' (ps ++ [p]) ∧ some B ≠ v'.ownBlock ∧ (∀ (k : Nat) (t : TypeId) (C : List Value), Blk w k t C → k ≠ B → some k ≠ (Value.slice (some ad) n c).ownBlock → Blk w' k t C) := by
  have c0 : w.cell? ⟨B, 0, none⟩ = some (.int .i64 acc) := hB.cell rfl
  have c1 : w.cell? ⟨B, 1, none⟩ = some (.slice (some ad) n c) := hB.cell rfl
  have e0 := box_cells w p 0 _ rfl 27
  have e1 := box_cells w p 1 _ rfl 27
  have e2 := box_cells w p 2 _ rfl 27
  have e3 := box_cells w p 3 _ rfl 27
  have e4 := box_cells w p 4 _ rfl 27
  have e5 := box_cells w p 5 _ rfl 27
  have e6 := box_cells w p 6 _ rfl 27
  have c0' := c_old (o := .cells (pcells p).toArray 27) c0
  have c1' := c_old (o := .cells (pcells p).toArray 27) c1
  have cq' := c_old (o := .cells (pcells p).toArray 27) hq
  have hd : decide ((200 : Int) ≤ (n : Int)) = false := decide_eq_false (by omega)
  have hp : decide ((0 : Int) < (n : Int)) = true := decide_eq_true (by omega)
  have hp2 : decide (0 < n) = true := decide_eq_true (by omega)
  have hi0 : (0 : Int) ≤ (m : Int) := by omega
  have hi1 : (m : Int) < (n : Int) := by omega
  have hw : IntKind.i64.wrap ((n : Int) - 1) = (m : Int) := by rw [IntWalk.i64_in _ (by omega)]; omega
  have hlt : decide (p.f1 < q.f1) = false := decide_eq_false hday
  have hk3 : (p.f0 == 3) = true := beq_iff_eq.2 hk
  have HNX := Lib.hid (show some w.heap.size ≠ (Value.slice (some ad) n c).ownBlock from fun e => Nat.lt_irrefl _ (Kd.R_lt hR _ e.symm))
  have HNB := Lib.hid hneB
  have HPS := Lib.hid hps
  have HO := Lib.hid ho
  have HU := Lib.hid hu
  clear hu
  have HXB := Lib.hid (show w.heap.size ≠ B from fun e => by have := hB.lt; omega)
  obtain ⟨hnl, hnc, hC⟩ := Kd.R_reads' hR
  have honl : (o : Int) < ((ps.length : Nat) : Int) := by omega
  obtain ⟨ad', ead, x0, x1, x2, x3, x4, x5, x6⟩ := at_T27 hC (o : Int) (by omega) honl
  obtain rfl := Option.some.inj ead
  rw [Int.toNat_natCast] at x0 x1 x2 x3 x4 x5 x6
  generalize rd_T27 ps (o : Int) = u at *
  have hx1 : decide ((n : Int) ≤ (o : Int)) = false := decide_eq_false (by omega)
  have hx2 : decide (n ≤ o) = false := decide_eq_false (by omega)
  have hx3 : (o : Int) < (n : Int) := by omega
  have hx4 : (0 : Int) ≤ (o : Int) := by omega
  have hx5 : (o : Int) < 200 := by omega
  have hx6 : o < 200 := by omega
  have hx7 : o < n := by omega
  clear hnl hnc hC honl
  unfold pv
  unfold pcells at c0' c1' cq' e0 e1 e2 e3 e4 e5 e6
  clear c0 c1 hq hnm hneB hps hk hday ho
  go_enter Tryd.func51, Tryd.ntmps51
  go_wp2
  generalize hw1 : w.alloc (.cells [Value.int .i64 p.f0, .int .i64 p.f1, .int .i64 p.f2, .int .i64 p.f3, .int .i64 p.f4, .int .i64 p.f5, .int .i64 p.f6].toArray 27) = w1 at *
  have hbw : Below w.heap.size w w1.drew := below_drew1 (by rw [← hw1]; exact (Below.refl _ _).alloc (Nat.le_refl _) _)
  have hS : w1.drew.cell? ⟨B, 0, none⟩ = some (.int .i64 acc) ∧ w1.drew.cell? ⟨B, 1, none⟩ = some (.slice (some ad) n c) ∧ w1.drew.cell? ⟨(ad.add (m * 7)).block, (ad.add (m * 7)).off + 1, none⟩ = some (.int .i64 q.f1) ∧ w1.drew.cell? ⟨w.heap.size, 0, none⟩ = some (.int .i64 p.f0) ∧ w1.drew.cell? ⟨w.heap.size, 1, none⟩ = some (.int .i64 p.f1) ∧ w1.drew.cell? ⟨w.heap.size, 2, none⟩ = some (.int .i64 p.f2) ∧ w1.drew.cell? ⟨w.heap.size, 3, none⟩ = some (.int .i64 p.f3) ∧ w1.drew.cell? ⟨w.heap.size, 4, none⟩ = some (.int .i64 p.f4) ∧ w1.drew.cell? ⟨w.heap.size, 5, none⟩ = some (.int .i64 p.f5) ∧ w1.drew.cell? ⟨w.heap.size, 6, none⟩ = some (.int .i64 p.f6) := ⟨c0', c1', cq', e0, e1, e2, e3, e4, e5, e6⟩
  apply wp_mid (M := fun w' => Below w.heap.size w w' ∧ (w'.cell? ⟨B, 0, none⟩ = some (.int .i64 acc) ∧ w'.cell? ⟨B, 1, none⟩ = some (.slice (some ad) n c) ∧ w'.cell? ⟨(ad.add (m * 7)).block, (ad.add (m * 7)).off + 1, none⟩ = some (.int .i64 q.f1) ∧ w'.cell? ⟨w.heap.size, 0, none⟩ = some (.int .i64 p.f0) ∧ w'.cell? ⟨w.heap.size, 1, none⟩ = some (.int .i64 p.f1) ∧ w'.cell? ⟨w.heap.size, 2, none⟩ = some (.int .i64 p.f2) ∧ w'.cell? ⟨w.heap.size, 3, none⟩ = some (.int .i64 p.f3) ∧ w'.cell? ⟨w.heap.size, 4, none⟩ = some (.int .i64 p.f4) ∧ w'.cell? ⟨w.heap.size, 5, none⟩ = some (.int .i64 p.f5) ∧ w'.cell? ⟨w.heap.size, 6, none⟩ = some (.int .i64 p.f6)))
  · go_region_held3 (fun w' => w'.cell? ⟨B, 0, none⟩ = some (.int .i64 acc) ∧ w'.cell? ⟨B, 1, none⟩ = some (.slice (some ad) n c) ∧ w'.cell? ⟨(ad.add (m * 7)).block, (ad.add (m * 7)).off + 1, none⟩ = some (.int .i64 q.f1) ∧ w'.cell? ⟨w.heap.size, 0, none⟩ = some (.int .i64 p.f0) ∧ w'.cell? ⟨w.heap.size, 1, none⟩ = some (.int .i64 p.f1) ∧ w'.cell? ⟨w.heap.size, 2, none⟩ = some (.int .i64 p.f2) ∧ w'.cell? ⟨w.heap.size, 3, none⟩ = some (.int .i64 p.f3) ∧ w'.cell? ⟨w.heap.size, 4, none⟩ = some (.int .i64 p.f4) ∧ w'.cell? ⟨w.heap.size, 5, none⟩ = some (.int .i64 p.f5) ∧ w'.cell? ⟨w.heap.size, 6, none⟩ = some (.int .i64 p.f6)) (first | (with_reducible exact hkd) | (with_reducible exact hS) | fail) (first | (go_at_call 63; (with_reducible refine (formed_walk' acc p true hf _).mono ?_); rintro e w2 ⟨rfl, hb1⟩; have hkd : w2.cell? ⟨B, 0, none⟩ = some (.int .i64 acc) ∧ w2.cell? ⟨B, 1, none⟩ = some (.slice (some ad) n c) ∧ w2.cell? ⟨(ad.add (m * 7)).block, (ad.add (m * 7)).off + 1, none⟩ = some (.int .i64 q.f1) ∧ w2.cell? ⟨w.heap.size, 0, none⟩ = some (.int .i64 p.f0) ∧ w2.cell? ⟨w.heap.size, 1, none⟩ = some (.int .i64 p.f1) ∧ w2.cell? ⟨w.heap.size, 2, none⟩ = some (.int .i64 p.f2) ∧ w2.cell? ⟨w.heap.size, 3, none⟩ = some (.int .i64 p.f3) ∧ w2.cell? ⟨w.heap.size, 4, none⟩ = some (.int .i64 p.f4) ∧ w2.cell? ⟨w.heap.size, 5, none⟩ = some (.int .i64 p.f5) ∧ w2.cell? ⟨w.heap.size, 6, none⟩ = some (.int .i64 p.f6) := ⟨keepB hb1 hS.1, keepB hb1 hS.2.1, keepB hb1 hS.2.2.1, keepB hb1 hS.2.2.2.1, keepB hb1 hS.2.2.2.2.1, keepB hb1 hS.2.2.2.2.2.1, keepB hb1 hS.2.2.2.2.2.2.1, keepB hb1 hS.2.2.2.2.2.2.2.1, keepB hb1 hS.2.2.2.2.2.2.2.2.1, keepB hb1 hS.2.2.2.2.2.2.2.2.2⟩) | fail)
    all_goals exact ⟨rfl, rfl, Below.trans hbw (hb1.mono hbw.size), hkd⟩
  rintro w2 ⟨hbx, hHeld⟩
  clear hS
  have hbw2 : Below w.heap.size w w2.drew := below_drew1 (hbx)
  have HB8 : Below ws.heap.size ws w2.drew := Below.trans hbel (hbw2.mono hbel.size)
  have HR8 := Kd.R_below hR hbw2
  have HL8 := hB.belowS hbw2
  have g0 : w2.drew.cell? ⟨w.heap.size, 0, none⟩ = some (.int .i64 p.f0) := hHeld.2.2.2.1
  have g1 : w2.drew.cell? ⟨w.heap.size, 1, none⟩ = some (.int .i64 p.f1) := hHeld.2.2.2.2.1
  have g2 : w2.drew.cell? ⟨w.heap.size, 2, none⟩ = some (.int .i64 p.f2) := hHeld.2.2.2.2.2.1
  have g3 : w2.drew.cell? ⟨w.heap.size, 3, none⟩ = some (.int .i64 p.f3) := hHeld.2.2.2.2.2.2.1
  have g4 : w2.drew.cell? ⟨w.heap.size, 4, none⟩ = some (.int .i64 p.f4) := hHeld.2.2.2.2.2.2.2.1
  have g5 : w2.drew.cell? ⟨w.heap.size, 5, none⟩ = some (.int .i64 p.f5) := hHeld.2.2.2.2.2.2.2.2.1
  have g6 : w2.drew.cell? ⟨w.heap.size, 6, none⟩ = some (.int .i64 p.f6) := hHeld.2.2.2.2.2.2.2.2.2
  have gk : w2.cell? ⟨w.heap.size, 0, none⟩ = some (.int .i64 p.f0) := g0
  rw [HO.out] at g6
  clear hHeld c0' c1' cq' e0 e1 e2 e3 e4 e5 e6 hw1
  go_wp2
  have y0 := keepX hbw2 x0
  have y1 := keepX hbw2 x1
  have y2 := keepX hbw2 x2
  have y3 := keepX hbw2 x3
  have y4 := keepX hbw2 x4
  have y5 := keepX hbw2 x5
  have y6 := keepX hbw2 x6
  have hS : w2.drew.cell? ⟨w.heap.size, 0, none⟩ = some (.int .i64 p.f0) ∧ w2.drew.cell? ⟨w.heap.size, 1, none⟩ = some (.int .i64 p.f1) ∧ w2.drew.cell? ⟨w.heap.size, 2, none⟩ = some (.int .i64 p.f2) ∧ w2.drew.cell? ⟨w.heap.size, 3, none⟩ = some (.int .i64 p.f3) ∧ w2.drew.cell? ⟨w.heap.size, 4, none⟩ = some (.int .i64 p.f4) ∧ w2.drew.cell? ⟨w.heap.size, 5, none⟩ = some (.int .i64 p.f5) ∧ w2.drew.cell? ⟨w.heap.size, 6, none⟩ = some (.int .i64 (o : Int)) ∧ w2.drew.cell? ⟨B, 1, none⟩ = some (.slice (some ad) n c) ∧ w2.drew.cell? ⟨B, 3 + o, none⟩ = some (.bool false) ∧ w2.drew.cell? (ad.add (o * 7)) = some (.int .i64 u.f0) ∧ w2.drew.cell? ⟨(ad.add (o * 7)).block, (ad.add (o * 7)).off + 1, none⟩ = some (.int .i64 u.f1) ∧ w2.drew.cell? ⟨(ad.add (o * 7)).block, (ad.add (o * 7)).off + 2, none⟩ = some (.int .i64 u.f2) ∧ w2.drew.cell? ⟨(ad.add (o * 7)).block, (ad.add (o * 7)).off + 3, none⟩ = some (.int .i64 u.f3) ∧ w2.drew.cell? ⟨(ad.add (o * 7)).block, (ad.add (o * 7)).off + 4, none⟩ = some (.int .i64 u.f4) ∧ w2.drew.cell? ⟨(ad.add (o * 7)).block, (ad.add (o * 7)).off + 5, none⟩ = some (.int .i64 u.f5) ∧ w2.drew.cell? ⟨(ad.add (o * 7)).block, (ad.add (o * 7)).off + 6, none⟩ = some (.int .i64 u.f6) := ⟨g0, g1, g2, g3, g4, g5, g6, HL8.cell rfl, led_back HL8 o _ hbk, y0, y1, y2, y3, y4, y5, y6⟩
  apply wp_mid (M := fun w' => Below w2.drew.heap.size w2.drew w' ∧ (w'.cell? ⟨w.heap.size, 0, none⟩ = some (.int .i64 p.f0) ∧ w'.cell? ⟨w.heap.size, 1, none⟩ = some (.int .i64 p.f1) ∧ w'.cell? ⟨w.heap.size, 2, none⟩ = some (.int .i64 p.f2) ∧ w'.cell? ⟨w.heap.size, 3, none⟩ = some (.int .i64 p.f3) ∧ w'.cell? ⟨w.heap.size, 4, none⟩ = some (.int .i64 p.f4) ∧ w'.cell? ⟨w.heap.size, 5, none⟩ = some (.int .i64 p.f5) ∧ w'.cell? ⟨w.heap.size, 6, none⟩ = some (.int .i64 (o : Int)) ∧ w'.cell? ⟨B, 1, none⟩ = some (.slice (some ad) n c) ∧ w'.cell? ⟨B, 3 + o, none⟩ = some (.bool false) ∧ w'.cell? (ad.add (o * 7)) = some (.int .i64 u.f0) ∧ w'.cell? ⟨(ad.add (o * 7)).block, (ad.add (o * 7)).off + 1, none⟩ = some (.int .i64 u.f1) ∧ w'.cell? ⟨(ad.add (o * 7)).block, (ad.add (o * 7)).off + 2, none⟩ = some (.int .i64 u.f2) ∧ w'.cell? ⟨(ad.add (o * 7)).block, (ad.add (o * 7)).off + 3, none⟩ = some (.int .i64 u.f3) ∧ w'.cell? ⟨(ad.add (o * 7)).block, (ad.add (o * 7)).off + 4, none⟩ = some (.int .i64 u.f4) ∧ w'.cell? ⟨(ad.add (o * 7)).block, (ad.add (o * 7)).off + 5, none⟩ = some (.int .i64 u.f5) ∧ w'.cell? ⟨(ad.add (o * 7)).block, (ad.add (o * 7)).off + 6, none⟩ = some (.int .i64 u.f6)))
  · go_region_held3 (fun w' => w'.cell? ⟨w.heap.size, 0, none⟩ = some (.int .i64 p.f0) ∧ w'.cell? ⟨w.heap.size, 1, none⟩ = some (.int .i64 p.f1) ∧ w'.cell? ⟨w.heap.size, 2, none⟩ = some (.int .i64 p.f2) ∧ w'.cell? ⟨w.heap.size, 3, none⟩ = some (.int .i64 p.f3) ∧ w'.cell? ⟨w.heap.size, 4, none⟩ = some (.int .i64 p.f4) ∧ w'.cell? ⟨w.heap.size, 5, none⟩ = some (.int .i64 p.f5) ∧ w'.cell? ⟨w.heap.size, 6, none⟩ = some (.int .i64 (o : Int)) ∧ w'.cell? ⟨B, 1, none⟩ = some (.slice (some ad) n c) ∧ w'.cell? ⟨B, 3 + o, none⟩ = some (.bool false) ∧ w'.cell? (ad.add (o * 7)) = some (.int .i64 u.f0) ∧ w'.cell? ⟨(ad.add (o * 7)).block, (ad.add (o * 7)).off + 1, none⟩ = some (.int .i64 u.f1) ∧ w'.cell? ⟨(ad.add (o * 7)).block, (ad.add (o * 7)).off + 2, none⟩ = some (.int .i64 u.f2) ∧ w'.cell? ⟨(ad.add (o * 7)).block, (ad.add (o * 7)).off + 3, none⟩ = some (.int .i64 u.f3) ∧ w'.cell? ⟨(ad.add (o * 7)).block, (ad.add (o * 7)).off + 4, none⟩ = some (.int .i64 u.f4) ∧ w'.cell? ⟨(ad.add (o * 7)).block, (ad.add (o * 7)).off + 5, none⟩ = some (.int .i64 u.f5) ∧ w'.cell? ⟨(ad.add (o * 7)).block, (ad.add (o * 7)).off + 6, none⟩ = some (.int .i64 u.f6)) (first | (with_reducible exact hkd) | (with_reducible exact hS) | fail) (first | (go_at_call 64; (with_reducible refine (back_walk' p u o HO.out true HU.out _).mono ?_); rintro e w3 ⟨rfl, hb3⟩; have hkd : w3.cell? ⟨w.heap.size, 0, none⟩ = some (.int .i64 p.f0) ∧ w3.cell? ⟨w.heap.size, 1, none⟩ = some (.int .i64 p.f1) ∧ w3.cell? ⟨w.heap.size, 2, none⟩ = some (.int .i64 p.f2) ∧ w3.cell? ⟨w.heap.size, 3, none⟩ = some (.int .i64 p.f3) ∧ w3.cell? ⟨w.heap.size, 4, none⟩ = some (.int .i64 p.f4) ∧ w3.cell? ⟨w.heap.size, 5, none⟩ = some (.int .i64 p.f5) ∧ w3.cell? ⟨w.heap.size, 6, none⟩ = some (.int .i64 (o : Int)) ∧ w3.cell? ⟨B, 1, none⟩ = some (.slice (some ad) n c) ∧ w3.cell? ⟨B, 3 + o, none⟩ = some (.bool false) ∧ w3.cell? (ad.add (o * 7)) = some (.int .i64 u.f0) ∧ w3.cell? ⟨(ad.add (o * 7)).block, (ad.add (o * 7)).off + 1, none⟩ = some (.int .i64 u.f1) ∧ w3.cell? ⟨(ad.add (o * 7)).block, (ad.add (o * 7)).off + 2, none⟩ = some (.int .i64 u.f2) ∧ w3.cell? ⟨(ad.add (o * 7)).block, (ad.add (o * 7)).off + 3, none⟩ = some (.int .i64 u.f3) ∧ w3.cell? ⟨(ad.add (o * 7)).block, (ad.add (o * 7)).off + 4, none⟩ = some (.int .i64 u.f4) ∧ w3.cell? ⟨(ad.add (o * 7)).block, (ad.add (o * 7)).off + 5, none⟩ = some (.int .i64 u.f5) ∧ w3.cell? ⟨(ad.add (o * 7)).block, (ad.add (o * 7)).off + 6, none⟩ = some (.int .i64 u.f6) := ⟨keepB hb3 hS.1, keepB hb3 hS.2.1, keepB hb3 hS.2.2.1, keepB hb3 hS.2.2.2.1, keepB hb3 hS.2.2.2.2.1, keepB hb3 hS.2.2.2.2.2.1, keepB hb3 hS.2.2.2.2.2.2.1, keepB hb3 hS.2.2.2.2.2.2.2.1, keepB hb3 hS.2.2.2.2.2.2.2.2.1, keepB hb3 hS.2.2.2.2.2.2.2.2.2.1, keepB hb3 hS.2.2.2.2.2.2.2.2.2.2.1, keepB hb3 hS.2.2.2.2.2.2.2.2.2.2.2.1, keepB hb3 hS.2.2.2.2.2.2.2.2.2.2.2.2.1, keepB hb3 hS.2.2.2.2.2.2.2.2.2.2.2.2.2.1, keepB hb3 hS.2.2.2.2.2.2.2.2.2.2.2.2.2.2.1, keepB hb3 hS.2.2.2.2.2.2.2.2.2.2.2.2.2.2.2⟩) | fail)
    all_goals exact ⟨rfl, rfl, hb3, hkd⟩
  rintro w3 ⟨hb3, hHeld⟩
  clear hS
  generalize w2.drew = wd2 at *
  have hb3' : Below wd2.heap.size wd2 w3.drew := below_drew1 hb3
  have HB9 : Below ws.heap.size ws w3.drew := Below.trans HB8 (hb3'.mono HB8.size)
  have HR9 := Kd.R_below HR8 hb3'
  have HL9 : Led w3.drew B acc (.slice (some ad) n c) clo bk := Blk.belowS HL8 hb3'
  have g0 : w3.drew.cell? ⟨w.heap.size, 0, none⟩ = some (.int .i64 p.f0) := hHeld.1
  have g1 : w3.drew.cell? ⟨w.heap.size, 1, none⟩ = some (.int .i64 p.f1) := hHeld.2.1
  have g2 : w3.drew.cell? ⟨w.heap.size, 2, none⟩ = some (.int .i64 p.f2) := hHeld.2.2.1
  have g3 : w3.drew.cell? ⟨w.heap.size, 3, none⟩ = some (.int .i64 p.f3) := hHeld.2.2.2.1
  have g4 : w3.drew.cell? ⟨w.heap.size, 4, none⟩ = some (.int .i64 p.f4) := hHeld.2.2.2.2.1
  have g5 : w3.drew.cell? ⟨w.heap.size, 5, none⟩ = some (.int .i64 p.f5) := hHeld.2.2.2.2.2.1
  have g6 : w3.drew.cell? ⟨w.heap.size, 6, none⟩ = some (.int .i64 (o : Int)) := hHeld.2.2.2.2.2.2.1
  have hcb := led_back HL9 o _ hbk
  have hfb : w3.drew.frozen? ⟨B, 3 + o, none⟩ = false := Blk.free HL9 _
  clear hHeld y0 y1 y2 y3 y4 y5 y6 gk HB8 HR8 HL8
  go_wp2
  refine start_ (n := 7) (S := fun w' => w'.cell? ⟨w.heap.size, 6, none⟩ = some (.int .i64 (o : Int))) (ds := [6]) (bb 7 0) (by kernel_rfl) rfl rfl (g6) (fun hHeld => ?_)
  generalize w3.drew = wd3 at *
  refine pure_ (i := 0) (N := some 73) (v := ?_) (a' := ?_) (bb 7 1) rfl rfl (by kernel_rfl) (fun _ _ _ h => h) (Or.inl ⟨by rfl, ?_⟩) ?_ ?_
  rotate_left; (intro w'; go_simp; with_reducible rfl); rotate_left; (simp only [Act.put, z1, z2, z3, i64_w, i32_w]; rfl)
  refine pure_ (i := 1) (N := some 74) (v := ?_) (a' := ?_) (bb 7 3) rfl rfl (by kernel_rfl) (fun _ _ _ h => h) (Or.inl ⟨by rfl, ?_⟩) ?_ ?_
  rotate_left; (intro w'; go_simp; with_reducible rfl); rotate_left; (simp only [Act.put, z1, z2, z3, i64_w, i32_w]; rfl)
  refine pure_ (i := 3) (N := some 76) (v := ?_) (a' := ?_) (bb 7 11) rfl rfl (by kernel_rfl) (fun _ _ _ h => h) (Or.inl ⟨by rfl, ?_⟩) ?_ ?_
  rotate_left; (intro w'; go_simp; with_reducible rfl); rotate_left; (simp only [Act.put, z1, z2, z3, i64_w, i32_w]; rfl)
  refine pure_ (i := 4) (N := some 77) (v := ?_) (a' := ?_) (bb 7 27) rfl rfl (by kernel_rfl) (fun _ _ _ h => h) (Or.inl ⟨by rfl, ?_⟩) ?_ ?_
  rotate_left; (intro w'; go_simp; with_reducible rfl); rotate_left; (simp only [Act.put, z1, z2, z3, i64_w, i32_w]; rfl)
  refine take_ (i := 2) (N := some 75) (v := ?_) (a' := ?_) (bb 7 31) rfl rfl (by kernel_rfl) (fun _ _ _ h => h) (Or.inl ⟨by rfl, ?_⟩) hHeld ?_ ?_
  rotate_left; (intro w' s0; go_simp; with_reducible rfl); rotate_left; (simp only [Act.put, z1, z2, z3, i64_w, i32_w]; rfl)
  refine pure_ (i := 5) (N := some 78) (v := ?_) (a' := ?_) (bb 7 63) rfl rfl (by kernel_rfl) (fun _ _ _ h => h) (Or.inl ⟨by rfl, ?_⟩) ?_ ?_
  rotate_left; (intro w'; go_simp; with_reducible rfl); rotate_left; (simp only [Act.put, z1, z2, z3, i64_w, i32_w]; rfl)
  refine last_ (i := 6) (N := none) (bb 7 127) rfl rfl (by kernel_rfl) (by decide) (fun K hK => ?_)
  refine skip_ (w1 := ?_) (by rfl) rfl ?_ ?_
  rotate_left
  · go_simp
    rfl
  refine hK.out _ _ ?_
  clear hK K
  refine done_ (by kernel_rfl) ?_
  have HL10 := led_set HL9 o
  have HR10 := Kd.R_set HR9 (Blk.heap HL9) (by decide) (3 + o) (.bool true)
  have HB10 := HB9.setCell (p := ⟨B, 3 + o, none⟩) hBb (.bool true)
  have HFR : ∀ (k : Nat) (t : TypeId) (C : List Value), Blk w k t C → k ≠ B → Blk (wd3.setCell ⟨B, 3 + o, none⟩ (.bool true)).drew k t C := fun k t C hk hkB => (((hk.belowS hbw2).belowS hb3').set_other ⟨B, 3 + o, none⟩ hkB _).drew
  replace g0 := far_set (b := ⟨B, 3 + o, none⟩) (v := .bool true) HXB.out g0
  replace g1 := far_set (b := ⟨B, 3 + o, none⟩) (v := .bool true) HXB.out g1
  replace g2 := far_set (b := ⟨B, 3 + o, none⟩) (v := .bool true) HXB.out g2
  replace g3 := far_set (b := ⟨B, 3 + o, none⟩) (v := .bool true) HXB.out g3
  replace g4 := far_set (b := ⟨B, 3 + o, none⟩) (v := .bool true) HXB.out g4
  replace g5 := far_set (b := ⟨B, 3 + o, none⟩) (v := .bool true) HXB.out g5
  replace g6 := far_set (b := ⟨B, 3 + o, none⟩) (v := .bool true) HXB.out g6
  generalize wd3.setCell ⟨B, 3 + o, none⟩ (.bool true) = w5 at *
  have HB8 : Below ws.heap.size ws w5.drew := below_drew1 HB10
  have HR8 := Kd.R_drew HR10
  have HL8 : Led w5.drew B acc (.slice (some ad) n c) clo (bk.set o true) := HL10
  replace g0 : w5.drew.cell? ⟨w.heap.size, 0, none⟩ = some (.int .i64 p.f0) := g0
  replace g1 : w5.drew.cell? ⟨w.heap.size, 1, none⟩ = some (.int .i64 p.f1) := g1
  replace g2 : w5.drew.cell? ⟨w.heap.size, 2, none⟩ = some (.int .i64 p.f2) := g2
  replace g3 : w5.drew.cell? ⟨w.heap.size, 3, none⟩ = some (.int .i64 p.f3) := g3
  replace g4 : w5.drew.cell? ⟨w.heap.size, 4, none⟩ = some (.int .i64 p.f4) := g4
  replace g5 : w5.drew.cell? ⟨w.heap.size, 5, none⟩ = some (.int .i64 p.f5) := g5
  replace g6 : w5.drew.cell? ⟨w.heap.size, 6, none⟩ = some (.int .i64 (o : Int)) := g6
  rw [← HO.out] at g6
  clear HL10 HR10 HB10 HB9 HR9 HL9 hcb hfb hbk
  go_wp2
  refine start_ (n := 13) (S := fun w' => w'.cell? ⟨B, 1, none⟩ = some (.slice (some ad) n c) ∧ w'.cell? ⟨w.heap.size, 0, none⟩ = some (.int .i64 p.f0) ∧ w'.cell? ⟨w.heap.size, 1, none⟩ = some (.int .i64 p.f1) ∧ w'.cell? ⟨w.heap.size, 2, none⟩ = some (.int .i64 p.f2) ∧ w'.cell? ⟨w.heap.size, 3, none⟩ = some (.int .i64 p.f3) ∧ w'.cell? ⟨w.heap.size, 4, none⟩ = some (.int .i64 p.f4) ∧ w'.cell? ⟨w.heap.size, 5, none⟩ = some (.int .i64 p.f5) ∧ w'.cell? ⟨w.heap.size, 6, none⟩ = some (.int .i64 p.f6)) (ds := [12]) (bb 13 0) (by kernel_rfl) rfl rfl ⟨HL8.cell rfl, g0, g1, g2, g3, g4, g5, g6⟩ (fun hHeld => ?_)
  generalize w5.drew = wd5 at *
  refine pure_ (i := 0) (N := some 79) (v := ?_) (a' := ?_) (bb 13 1) rfl rfl (by kernel_rfl) (fun _ _ _ h => h) (Or.inl ⟨by rfl, ?_⟩) ?_ ?_
  rotate_left; (intro w'; go_simp; with_reducible rfl); rotate_left; (simp only [Act.put, z1, z2, z3, i64_w, i32_w]; rfl)
  refine pure_ (i := 1) (N := some 80) (v := ?_) (a' := ?_) (bb 13 3) rfl rfl (by kernel_rfl) (fun _ _ _ h => h) (Or.inl ⟨by rfl, ?_⟩) ?_ ?_
  rotate_left; (intro w'; go_simp; with_reducible rfl); rotate_left; (simp only [Act.put, z1, z2, z3, i64_w, i32_w]; rfl)
  refine pure_ (i := 2) (N := some 81) (v := ?_) (a' := ?_) (bb 13 7) rfl rfl (by kernel_rfl) (fun _ _ _ h => h) (Or.inl ⟨by rfl, ?_⟩) ?_ ?_
  rotate_left; (intro w'; go_simp; with_reducible rfl); rotate_left; (simp only [Act.put, z1, z2, z3, i64_w, i32_w]; rfl)
  refine pure_ (i := 3) (N := some 82) (v := ?_) (a' := ?_) (bb 13 15) rfl rfl (by kernel_rfl) (fun _ _ _ h => h) (Or.inl ⟨by rfl, ?_⟩) ?_ ?_
  rotate_left; (intro w'; go_simp; with_reducible rfl); rotate_left; (simp only [Act.put, z1, z2, z3, i64_w, i32_w]; rfl)
  refine pure_ (i := 4) (N := some 83) (v := ?_) (a' := ?_) (bb 13 31) rfl rfl (by kernel_rfl) (fun _ _ _ h => h) (Or.inl ⟨by rfl, ?_⟩) ?_ ?_
  rotate_left; (intro w'; go_simp; with_reducible rfl); rotate_left; (simp only [Act.put, z1, z2, z3, i64_w, i32_w]; rfl)
  refine take_ (i := 5) (N := some 84) (v := ?_) (a' := ?_) (bb 13 63) rfl rfl (by kernel_rfl) (fun _ _ _ h => h) (Or.inl ⟨by rfl, ?_⟩) hHeld ?_ ?_
  rotate_left; (rintro w' ⟨s0, s1, s2, s3, s4, s5, s6, s7⟩; go_simp; with_reducible rfl); rotate_left; (simp only [Act.put, z1, z2, z3, i64_w, i32_w]; rfl)
  refine take_ (i := 6) (N := some 85) (v := ?_) (a' := ?_) (bb 13 127) rfl rfl (by kernel_rfl) (fun _ _ _ h => h) (Or.inl ⟨by rfl, ?_⟩) hHeld ?_ ?_
  rotate_left; (rintro w' ⟨s0, s1, s2, s3, s4, s5, s6, s7⟩; go_simp; with_reducible rfl); rotate_left; (simp only [Act.put, z1, z2, z3, i64_w, i32_w]; rfl)
  refine one_ (i := 7) (N := some 86) (bb 13 255) rfl rfl (by kernel_rfl) (by decide) (fun K hK => ?_)
  refine Kd.R_lit_step k27 (w0 := ws) ws.heap.size 27 (by rfl) (N := 86) rfl (xs := [p]) (inner := pcells p) (ok := fun _ => True) (okp := fun _ => True) ?hr ?hp (fun _ hk => hk) trivial HB8 HB8.size (by simp) ?_
  (case hr => unfold pcells; first | (go_simp; done) | (go_simp; rfl))
  (case hp => exact (Reps.c7 (k27_mkM _ _ _ p) (Reps.none _ _)))
  intro v3 w3 ho3 hb3 hg3 hn3
  obtain ⟨a3, k3, rfl⟩ := Kd.R_slice1 ho3 (by simp)
  have HR3 := Kd.R_grown HR8 hg3 (fun k _ => by simp)
  have HL3 := Blk.grown HL8 hg3 (by simp)
  refine hK.out _ _ ⟨keepG hg3 (by simp) (hHeld.1), keepG hg3 (by simp) (hHeld.2.1), keepG hg3 (by simp) (hHeld.2.2.1), keepG hg3 (by simp) (hHeld.2.2.2.1), keepG hg3 (by simp) (hHeld.2.2.2.2.1), keepG hg3 (by simp) (hHeld.2.2.2.2.2.1), keepG hg3 (by simp) (hHeld.2.2.2.2.2.2.1), keepG hg3 (by simp) (hHeld.2.2.2.2.2.2.2)⟩ (fun hHeld => ?_)
  clear hK K
  refine norm_ (a' := ?_) ?_ ?_
  rotate_left
  · show Act.put _ (some 86) _ = _
    simp only [Act.put, z1, z2, z3, i64_w, i32_w]
    rfl
  refine one_ (i := 8) (N := some 87) (bb 13 511) rfl rfl (by kernel_rfl) (by decide) (fun K hK => ?_)
  refine Kd.R_append_rows_step k27 (w0 := ws) ws.heap.size (by rfl) (.tmp 84) (.tmp 86) 22 27 (.agg #[(.int .i64 0), (.int .i64 0), (.int .i64 0), (.int .i64 0), (.int .i64 0), (.int .i64 0), (.int .i64 0)]) 56 rfl Tryd.underlying22 info27 rfl (by decide) (by omega) (.slice (some ad) n c) ps [p] _ _ _ (fun _ => True) (fun _ => False) rfl rfl ?aO ?aR (fun _ _ h => h) (fun _ h => h.elim) ?aF ?aB ?aS ?aL ?_
  (case aR => exact (Kd.R_reads' ho3).2.2)
  (case aB => exact hb3)
  (case aF => exact fun _ _ => trivial)
  (case aO => exact HR3)
  (case aS => exact hb3.size)
  (case aL => have h_ := HPS.out; simp only [List.length_singleton]; omega)
  intro v4 w4 ho4 hb4 hg4 hat4
  obtain ⟨a4, k4, ev4⟩ := Kd.R_slice ho4
  obtain ⟨n4, en4⟩ : ∃ q_ : Nat, (ps ++ [p]).length = q_ := ⟨_, rfl⟩
  rw [en4] at ev4
  clear en4
  subst ev4
  have hn4 := ne_after HNB.out hat4 HL3.lt
  have HL4 := Blk.grown HL3 hg4 HNB.out
  have hfz : w4.frozen? ⟨B, 1, none⟩ = false := HL4.free 1
  have hc4 : w4.cell? ⟨B, 1, none⟩ = some (.slice (some ad) n c) := HL4.cell rfl
  refine hK.out _ _ ⟨keepG hg4 HNB.out (hHeld.1), keepG hg4 HNX.out (hHeld.2.1), keepG hg4 HNX.out (hHeld.2.2.1), keepG hg4 HNX.out (hHeld.2.2.2.1), keepG hg4 HNX.out (hHeld.2.2.2.2.1), keepG hg4 HNX.out (hHeld.2.2.2.2.2.1), keepG hg4 HNX.out (hHeld.2.2.2.2.2.2.1), keepG hg4 HNX.out (hHeld.2.2.2.2.2.2.2)⟩ (fun hHeld => ?_)
  clear hK K
  refine norm_ (a' := ?_) ?_ ?_
  rotate_left
  · show Act.put _ (some 87) _ = _
    simp only [Act.put, z1, z2, z3, i64_w, i32_w]
    rfl
  refine pure_ (i := 9) (N := some 88) (v := ?_) (a' := ?_) (bb 13 1023) rfl rfl (by kernel_rfl) (fun _ _ _ h => h) (Or.inl ⟨by rfl, ?_⟩) ?_ ?_
  rotate_left; (intro w'; go_simp; with_reducible rfl); rotate_left; (simp only [Act.put, z1, z2, z3, i64_w, i32_w]; rfl)
  refine pure_ (i := 10) (N := some 89) (v := ?_) (a' := ?_) (bb 13 2047) rfl rfl (by kernel_rfl) (fun _ _ _ h => h) (Or.inl ⟨by rfl, ?_⟩) ?_ ?_
  rotate_left; (intro w'; go_simp; with_reducible rfl); rotate_left; (simp only [Act.put, z1, z2, z3, i64_w, i32_w]; rfl)
  refine pure_ (i := 11) (N := some 90) (v := ?_) (a' := ?_) (bb 13 4095) rfl rfl (by kernel_rfl) (fun _ _ _ h => h) (Or.inl ⟨by rfl, ?_⟩) ?_ ?_
  rotate_left; (intro w'; go_simp; with_reducible rfl); rotate_left; (simp only [Act.put, z1, z2, z3, i64_w, i32_w]; rfl)
  refine last_ (i := 12) (N := none) (bb 13 8191) rfl rfl (by kernel_rfl) (by decide) (fun K hK => ?_)
  refine skip_ (w1 := ?_) (by rfl) rfl ?_ ?_
  rotate_left
  · go_simp
    rfl
  refine hK.out _ _ ?_
  clear hK K
  refine done_ (by kernel_rfl) ?_
  go_wp2
  go_ret
  exact ⟨rfl, hb4.setCell (p := ⟨B, 1, none⟩) hBb _, _, HL4.set 1 _, Kd.R_set ho4 HL4.heap (by decide) 1 _, hn4, fun k t C hk hkB hkv => (((HFR k t C hk hkB).grown hg3 (by simp)).grown hg4 hkv).set_other ⟨B, 1, none⟩ hkB _⟩
set_option maxRecDepth 100000 in
set_option maxHeartbeats 4000000 in
theorem takes_first (ws : World) (B : Nat) (acc clo : Int) (bk : List Bool) (p : S27) (w : World) (hbel : Below ws.heap.size ws w) (hBb : ws.heap.size ≤ B) (hB : Led w B acc (.slice none 0 0) clo bk) (hf : formedB acc p = true) (hk : p.f0 ≠ 3) :
    Calls Tryd.prog 51 #[.pointer (some ⟨B, 0, none⟩), pv p] w fun e w' => e = .returned (.bool true) ∧ Below ws.heap.size ws w' ∧ ∃ v', Led w' B acc v' clo bk ∧ Kd.R k27 27 w' ws.heap.size (fun _ => True) v' [p] ∧ some B ≠ v'.ownBlock ∧ (∀ (k : Nat) (t : TypeId) (C : List Value), Blk w k t C → k ≠ B → some k ≠ (Value.slice none 0 0).ownBlock → Blk w' k t C) := by
  have c0 : w.cell? ⟨B, 0, none⟩ = some (.int .i64 acc) := hB.cell rfl
  have c1 : w.cell? ⟨B, 1, none⟩ = some (.slice none 0 0) := hB.cell rfl
  have e0 := box_cells w p 0 _ rfl 27
  have e1 := box_cells w p 1 _ rfl 27
  have e2 := box_cells w p 2 _ rfl 27
  have e3 := box_cells w p 3 _ rfl 27
  have e4 := box_cells w p 4 _ rfl 27
  have e5 := box_cells w p 5 _ rfl 27
  have e6 := box_cells w p 6 _ rfl 27
  have c0' := c_old (o := .cells (pcells p).toArray 27) c0
  have c1' := c_old (o := .cells (pcells p).toArray 27) c1
  have HNX := Lib.hid (show some w.heap.size ≠ (Value.slice none 0 0).ownBlock from fun e => by cases e)
  have HNB := Lib.hid (show some B ≠ (Value.slice none 0 0).ownBlock from fun e => by cases e)
  have hk3 : (p.f0 == 3) = false := beq_eq_false_iff_ne.2 hk
  clear hk
  unfold pv
  unfold pcells at c0' c1' e0 e1 e2 e3 e4 e5 e6
  clear c0 c1
  go_enter Tryd.func51, Tryd.ntmps51
  go_wp2
  generalize hw1 : w.alloc (.cells [Value.int .i64 p.f0, .int .i64 p.f1, .int .i64 p.f2, .int .i64 p.f3, .int .i64 p.f4, .int .i64 p.f5, .int .i64 p.f6].toArray 27) = w1 at *
  have hbw : Below w.heap.size w w1.drew := below_drew1 (by rw [← hw1]; exact (Below.refl _ _).alloc (Nat.le_refl _) _)
  refine start_ (n := 31) (S := fun w' => w'.cell? ⟨B, 0, none⟩ = some (.int .i64 acc) ∧ w'.cell? ⟨w.heap.size, 0, none⟩ = some (.int .i64 p.f0) ∧ w'.cell? ⟨w.heap.size, 1, none⟩ = some (.int .i64 p.f1) ∧ w'.cell? ⟨w.heap.size, 2, none⟩ = some (.int .i64 p.f2) ∧ w'.cell? ⟨w.heap.size, 3, none⟩ = some (.int .i64 p.f3) ∧ w'.cell? ⟨w.heap.size, 4, none⟩ = some (.int .i64 p.f4) ∧ w'.cell? ⟨w.heap.size, 5, none⟩ = some (.int .i64 p.f5) ∧ w'.cell? ⟨w.heap.size, 6, none⟩ = some (.int .i64 p.f6)) (ds := []) (bb 31 0) (by kernel_rfl) rfl rfl ⟨c0', e0, e1, e2, e3, e4, e5, e6⟩ (fun hHeld => ?_)
  generalize w1.drew = wd at *
  refine pure_ (i := 0) (N := (some 12)) (v := ?_) (a' := ?_) (bb 31 1) rfl rfl (by kernel_rfl) (fun _ _ _ h => h) (Or.inl ⟨by rfl, ?_⟩) ?_ ?_
  rotate_left; (intro w'; go_simp; with_reducible rfl); rotate_left; (simp only [Act.put, z1, z2, z3, i64_w, i32_w]; rfl)
  refine pure_ (i := 1) (N := (some 13)) (v := ?_) (a' := ?_) (bb 31 3) rfl rfl (by kernel_rfl) (fun _ _ _ h => h) (Or.inl ⟨by rfl, ?_⟩) ?_ ?_
  rotate_left; (intro w'; go_simp; with_reducible rfl); rotate_left; (simp only [Act.put, z1, z2, z3, i64_w, i32_w]; rfl)
  refine pure_ (i := 2) (N := (some 14)) (v := ?_) (a' := ?_) (bb 31 7) rfl rfl (by kernel_rfl) (fun _ _ _ h => h) (Or.inl ⟨by rfl, ?_⟩) ?_ ?_
  rotate_left; (intro w'; go_simp; with_reducible rfl); rotate_left; (simp only [Act.put, z1, z2, z3, i64_w, i32_w]; rfl)
  refine take_ (i := 3) (N := (some 15)) (v := ?_) (a' := ?_) (bb 31 15) rfl rfl (by kernel_rfl) (fun _ _ _ h => h) (Or.inl ⟨by rfl, ?_⟩) hHeld ?_ ?_
  rotate_left; (rintro w' ⟨s0, s1, s2, s3, s4, s5, s6, s7⟩; go_simp; with_reducible rfl); rotate_left; (simp only [Act.put, z1, z2, z3, i64_w, i32_w]; rfl)
  refine pure_ (i := 4) (N := (some 16)) (v := ?_) (a' := ?_) (bb 31 31) rfl rfl (by kernel_rfl) (fun _ _ _ h => h) (Or.inl ⟨by rfl, ?_⟩) ?_ ?_
  rotate_left; (intro w'; go_simp; with_reducible rfl); rotate_left; (simp only [Act.put, z1, z2, z3, i64_w, i32_w]; rfl)
  refine pure_ (i := 5) (N := (some 17)) (v := ?_) (a' := ?_) (bb 31 63) rfl rfl (by kernel_rfl) (fun _ _ _ h => h) (Or.inl ⟨by rfl, ?_⟩) ?_ ?_
  rotate_left; (intro w'; go_simp; with_reducible rfl); rotate_left; (simp only [Act.put, z1, z2, z3, i64_w, i32_w]; rfl)
  refine pure_ (i := 6) (N := (some 18)) (v := ?_) (a' := ?_) (bb 31 127) rfl rfl (by kernel_rfl) (fun _ _ _ h => h) (Or.inl ⟨by rfl, ?_⟩) ?_ ?_
  rotate_left; (intro w'; go_simp; with_reducible rfl); rotate_left; (simp only [Act.put, z1, z2, z3, i64_w, i32_w]; rfl)
  refine pure_ (i := 7) (N := (some 19)) (v := ?_) (a' := ?_) (bb 31 255) rfl rfl (by kernel_rfl) (fun _ _ _ h => h) (Or.inl ⟨by rfl, ?_⟩) ?_ ?_
  rotate_left; (intro w'; go_simp; with_reducible rfl); rotate_left; (simp only [Act.put, z1, z2, z3, i64_w, i32_w]; rfl)
  refine take_ (i := 8) (N := (some 20)) (v := ?_) (a' := ?_) (bb 31 511) rfl rfl (by kernel_rfl) (fun _ _ _ h => h) (Or.inl ⟨by rfl, ?_⟩) hHeld ?_ ?_
  rotate_left; (rintro w' ⟨s0, s1, s2, s3, s4, s5, s6, s7⟩; go_simp; with_reducible rfl); rotate_left; (simp only [Act.put, z1, z2, z3, i64_w, i32_w]; rfl)
  refine one_ (i := 9) (N := (some 21)) (bb 31 1023) rfl rfl (by kernel_rfl) (by decide) (fun K hK => ?_)
  refine goes_ Tryd.func63 (by kernel_rfl) rfl #[.agg #[.int .i64 p.f0, .int .i64 p.f1, .int .i64 p.f2, .int .i64 p.f3, .int .i64 p.f4, .int .i64 p.f5, .int .i64 p.f6], .int .i64 acc] (by rfl) rfl rfl (by (try simp only [List.map_toArray, List.map_cons, List.map_nil]); first | done | rfl) ?_
  refine (formed_walk' acc p true hf _).mono ?_
  rintro e w2 ⟨rfl, hb1⟩
  refine ⟨_, rfl, ?_⟩
  refine hK.out _ _ ⟨keepB hb1 hHeld.1, keepB hb1 hHeld.2.1, keepB hb1 hHeld.2.2.1, keepB hb1 hHeld.2.2.2.1, keepB hb1 hHeld.2.2.2.2.1, keepB hb1 hHeld.2.2.2.2.2.1, keepB hb1 hHeld.2.2.2.2.2.2.1, keepB hb1 hHeld.2.2.2.2.2.2.2⟩ (fun hHeld => ?_)
  clear hK K
  refine norm_ (a' := ?_) ?_ ?_
  rotate_left
  · show Act.put _ (some 21) _ = _
    simp only [Act.put, z1, z2, z3, i64_w, i32_w]
    rfl
  refine pure_ (i := 10) (N := (some 22)) (v := ?_) (a' := ?_) (bb 31 2047) rfl rfl (by kernel_rfl) (fun _ _ _ h => h) (Or.inl ⟨by rfl, ?_⟩) ?_ ?_
  rotate_left; (intro w'; go_simp; with_reducible rfl); rotate_left; (simp only [Act.put, z1, z2, z3, i64_w, i32_w]; rfl)
  refine pure_ (i := 11) (N := (some 23)) (v := ?_) (a' := ?_) (bb 31 4095) rfl rfl (by kernel_rfl) (fun _ _ _ h => h) (Or.inl ⟨by rfl, ?_⟩) ?_ ?_
  rotate_left; (intro w'; go_simp; with_reducible rfl); rotate_left; (simp only [Act.put, z1, z2, z3, i64_w, i32_w]; rfl)
  refine pure_ (i := 12) (N := (some 24)) (v := ?_) (a' := ?_) (bb 31 8191) rfl rfl (by kernel_rfl) (fun _ _ _ h => h) (Or.inl ⟨by rfl, ?_⟩) ?_ ?_
  rotate_left; (intro w'; go_simp; with_reducible rfl); rotate_left; (simp only [Act.put, z1, z2, z3, i64_w, i32_w]; rfl)
  refine pure_ (i := 13) (N := (some 25)) (v := ?_) (a' := ?_) (bb 31 16383) rfl rfl (by kernel_rfl) (fun _ _ _ h => h) (Or.inl ⟨by rfl, ?_⟩) ?_ ?_
  rotate_left; (intro w'; go_simp; with_reducible rfl); rotate_left; (simp only [Act.put, z1, z2, z3, i64_w, i32_w]; rfl)
  refine pure_ (i := 14) (N := (some 26)) (v := ?_) (a' := ?_) (bb 31 32767) rfl rfl (by kernel_rfl) (fun _ _ _ h => h) (Or.inl ⟨by rfl, ?_⟩) ?_ ?_
  rotate_left; (intro w'; go_simp; with_reducible rfl); rotate_left; (simp only [Act.put, z1, z2, z3, i64_w, i32_w]; rfl)
  refine pure_ (i := 15) (N := (some 27)) (v := ?_) (a' := ?_) (bb 31 65535) rfl rfl (by kernel_rfl) (fun _ _ _ h => h) (Or.inl ⟨by rfl, ?_⟩) ?_ ?_
  rotate_left; (intro w'; go_simp; with_reducible rfl); rotate_left; (simp only [Act.put, z1, z2, z3, i64_w, i32_w]; rfl)
  refine pure_ (i := 16) (N := (some 28)) (v := undef) (a' := ?_) (bb 31 131071) rfl rfl (by kernel_rfl) (fun _ _ _ h => h) (Or.inr ⟨by rfl, rfl⟩) ?_ ?_
  rotate_left; (simp only [Act.put, z1, z2, z3, i64_w, i32_w]; rfl)
  refine pure_ (i := 17) (N := (some 29)) (v := undef) (a' := ?_) (bb 31 262143) rfl rfl (by kernel_rfl) (fun _ _ _ h => h) (Or.inr ⟨by rfl, rfl⟩) ?_ ?_
  rotate_left; (simp only [Act.put, z1, z2, z3, i64_w, i32_w]; rfl)
  refine pure_ (i := 18) (N := (some 30)) (v := undef) (a' := ?_) (bb 31 524287) rfl rfl (by kernel_rfl) (fun _ _ _ h => h) (Or.inr ⟨by rfl, rfl⟩) ?_ ?_
  rotate_left; (simp only [Act.put, z1, z2, z3, i64_w, i32_w]; rfl)
  refine pure_ (i := 19) (N := (some 31)) (v := undef) (a' := ?_) (bb 31 1048575) rfl rfl (by kernel_rfl) (fun _ _ _ h => h) (Or.inr ⟨by rfl, rfl⟩) ?_ ?_
  rotate_left; (simp only [Act.put, z1, z2, z3, i64_w, i32_w]; rfl)
  refine pure_ (i := 20) (N := (some 32)) (v := undef) (a' := ?_) (bb 31 2097151) rfl rfl (by kernel_rfl) (fun _ _ _ h => h) (Or.inr ⟨by rfl, rfl⟩) ?_ ?_
  rotate_left; (simp only [Act.put, z1, z2, z3, i64_w, i32_w]; rfl)
  refine pure_ (i := 21) (N := (some 33)) (v := undef) (a' := ?_) (bb 31 4194303) rfl rfl (by kernel_rfl) (fun _ _ _ h => h) (Or.inr ⟨by rfl, rfl⟩) ?_ ?_
  rotate_left; (simp only [Act.put, z1, z2, z3, i64_w, i32_w]; rfl)
  refine pure_ (i := 22) (N := (some 34)) (v := undef) (a' := ?_) (bb 31 8388607) rfl rfl (by kernel_rfl) (fun _ _ _ h => h) (Or.inr ⟨by rfl, rfl⟩) ?_ ?_
  rotate_left; (simp only [Act.put, z1, z2, z3, i64_w, i32_w]; rfl)
  refine pure_ (i := 23) (N := (some 35)) (v := undef) (a' := ?_) (bb 31 16777215) rfl rfl (by kernel_rfl) (fun _ _ _ h => h) (Or.inr ⟨by rfl, rfl⟩) ?_ ?_
  rotate_left; (simp only [Act.put, z1, z2, z3, i64_w, i32_w]; rfl)
  refine pure_ (i := 24) (N := (some 36)) (v := undef) (a' := ?_) (bb 31 33554431) rfl rfl (by kernel_rfl) (fun _ _ _ h => h) (Or.inr ⟨by rfl, rfl⟩) ?_ ?_
  rotate_left; (simp only [Act.put, z1, z2, z3, i64_w, i32_w]; rfl)
  refine pure_ (i := 25) (N := (some 37)) (v := undef) (a' := ?_) (bb 31 67108863) rfl rfl (by kernel_rfl) (fun _ _ _ h => h) (Or.inr ⟨by rfl, rfl⟩) ?_ ?_
  rotate_left; (simp only [Act.put, z1, z2, z3, i64_w, i32_w]; rfl)
  refine pure_ (i := 26) (N := (some 38)) (v := undef) (a' := ?_) (bb 31 134217727) rfl rfl (by kernel_rfl) (fun _ _ _ h => h) (Or.inr ⟨by rfl, rfl⟩) ?_ ?_
  rotate_left; (simp only [Act.put, z1, z2, z3, i64_w, i32_w]; rfl)
  refine pure_ (i := 27) (N := (some 39)) (v := undef) (a' := ?_) (bb 31 268435455) rfl rfl (by kernel_rfl) (fun _ _ _ h => h) (Or.inr ⟨by rfl, rfl⟩) ?_ ?_
  rotate_left; (simp only [Act.put, z1, z2, z3, i64_w, i32_w]; rfl)
  refine pure_ (i := 28) (N := (some 40)) (v := undef) (a' := ?_) (bb 31 536870911) rfl rfl (by kernel_rfl) (fun _ _ _ h => h) (Or.inr ⟨by rfl, rfl⟩) ?_ ?_
  rotate_left; (simp only [Act.put, z1, z2, z3, i64_w, i32_w]; rfl)
  refine pure_ (i := 29) (N := (some 41)) (v := ?_) (a' := ?_) (bb 31 1073741823) rfl rfl (by kernel_rfl) (fun _ _ _ h => h) (Or.inl ⟨by rfl, ?_⟩) ?_ ?_
  rotate_left; (intro w'; go_simp; with_reducible rfl); rotate_left; (simp only [Act.put, z1, z2, z3, i64_w, i32_w]; rfl)
  refine pure_ (i := 30) (N := (some 42)) (v := ?_) (a' := ?_) (bb 31 2147483647) rfl rfl (by kernel_rfl) (fun _ _ _ h => h) (Or.inl ⟨by rfl, ?_⟩) ?_ ?_
  rotate_left; (intro w'; go_simp; with_reducible rfl); rotate_left; (simp only [Act.put, z1, z2, z3, i64_w, i32_w]; rfl)
  refine done_ (by kernel_rfl) ?_
  have hbw2 : Below w.heap.size w w2.drew := below_drew1 (Below.trans hbw (hb1.mono hbw.size))
  have HB8 : Below ws.heap.size ws w2.drew := Below.trans hbel (hbw2.mono hbel.size)
  have HL8 := hB.belowS hbw2
  have g0 : w2.drew.cell? ⟨w.heap.size, 0, none⟩ = some (.int .i64 p.f0) := hHeld.2.1
  have g1 : w2.drew.cell? ⟨w.heap.size, 1, none⟩ = some (.int .i64 p.f1) := hHeld.2.2.1
  have g2 : w2.drew.cell? ⟨w.heap.size, 2, none⟩ = some (.int .i64 p.f2) := hHeld.2.2.2.1
  have g3 : w2.drew.cell? ⟨w.heap.size, 3, none⟩ = some (.int .i64 p.f3) := hHeld.2.2.2.2.1
  have g4 : w2.drew.cell? ⟨w.heap.size, 4, none⟩ = some (.int .i64 p.f4) := hHeld.2.2.2.2.2.1
  have g5 : w2.drew.cell? ⟨w.heap.size, 5, none⟩ = some (.int .i64 p.f5) := hHeld.2.2.2.2.2.2.1
  have g6 : w2.drew.cell? ⟨w.heap.size, 6, none⟩ = some (.int .i64 p.f6) := hHeld.2.2.2.2.2.2.2
  have gk : w2.cell? ⟨w.heap.size, 0, none⟩ = some (.int .i64 p.f0) := g0
  have HR8 : Kd.R k27 27 w2.drew ws.heap.size (fun _ => True) (.slice none 0 0) [] := Kd.R_nil _ _ _ _ _
  clear hHeld c0' c1' e0 e1 e2 e3 e4 e5 e6 hw1
  go_wp2
  refine start_ (n := 13) (S := fun w' => w'.cell? ⟨B, 1, none⟩ = some (.slice none 0 0) ∧ w'.cell? ⟨w.heap.size, 0, none⟩ = some (.int .i64 p.f0) ∧ w'.cell? ⟨w.heap.size, 1, none⟩ = some (.int .i64 p.f1) ∧ w'.cell? ⟨w.heap.size, 2, none⟩ = some (.int .i64 p.f2) ∧ w'.cell? ⟨w.heap.size, 3, none⟩ = some (.int .i64 p.f3) ∧ w'.cell? ⟨w.heap.size, 4, none⟩ = some (.int .i64 p.f4) ∧ w'.cell? ⟨w.heap.size, 5, none⟩ = some (.int .i64 p.f5) ∧ w'.cell? ⟨w.heap.size, 6, none⟩ = some (.int .i64 p.f6)) (ds := [12]) (bb 13 0) (by kernel_rfl) rfl rfl ⟨HL8.cell rfl, g0, g1, g2, g3, g4, g5, g6⟩ (fun hHeld => ?_)
  generalize w2.drew = wd2 at *
  refine pure_ (i := 0) (N := some 79) (v := ?_) (a' := ?_) (bb 13 1) rfl rfl (by kernel_rfl) (fun _ _ _ h => h) (Or.inl ⟨by rfl, ?_⟩) ?_ ?_
  rotate_left; (intro w'; go_simp; with_reducible rfl); rotate_left; (simp only [Act.put, z1, z2, z3, i64_w, i32_w]; rfl)
  refine pure_ (i := 1) (N := some 80) (v := ?_) (a' := ?_) (bb 13 3) rfl rfl (by kernel_rfl) (fun _ _ _ h => h) (Or.inl ⟨by rfl, ?_⟩) ?_ ?_
  rotate_left; (intro w'; go_simp; with_reducible rfl); rotate_left; (simp only [Act.put, z1, z2, z3, i64_w, i32_w]; rfl)
  refine pure_ (i := 2) (N := some 81) (v := ?_) (a' := ?_) (bb 13 7) rfl rfl (by kernel_rfl) (fun _ _ _ h => h) (Or.inl ⟨by rfl, ?_⟩) ?_ ?_
  rotate_left; (intro w'; go_simp; with_reducible rfl); rotate_left; (simp only [Act.put, z1, z2, z3, i64_w, i32_w]; rfl)
  refine pure_ (i := 3) (N := some 82) (v := ?_) (a' := ?_) (bb 13 15) rfl rfl (by kernel_rfl) (fun _ _ _ h => h) (Or.inl ⟨by rfl, ?_⟩) ?_ ?_
  rotate_left; (intro w'; go_simp; with_reducible rfl); rotate_left; (simp only [Act.put, z1, z2, z3, i64_w, i32_w]; rfl)
  refine pure_ (i := 4) (N := some 83) (v := ?_) (a' := ?_) (bb 13 31) rfl rfl (by kernel_rfl) (fun _ _ _ h => h) (Or.inl ⟨by rfl, ?_⟩) ?_ ?_
  rotate_left; (intro w'; go_simp; with_reducible rfl); rotate_left; (simp only [Act.put, z1, z2, z3, i64_w, i32_w]; rfl)
  refine take_ (i := 5) (N := some 84) (v := ?_) (a' := ?_) (bb 13 63) rfl rfl (by kernel_rfl) (fun _ _ _ h => h) (Or.inl ⟨by rfl, ?_⟩) hHeld ?_ ?_
  rotate_left; (rintro w' ⟨s0, s1, s2, s3, s4, s5, s6, s7⟩; go_simp; with_reducible rfl); rotate_left; (simp only [Act.put, z1, z2, z3, i64_w, i32_w]; rfl)
  refine take_ (i := 6) (N := some 85) (v := ?_) (a' := ?_) (bb 13 127) rfl rfl (by kernel_rfl) (fun _ _ _ h => h) (Or.inl ⟨by rfl, ?_⟩) hHeld ?_ ?_
  rotate_left; (rintro w' ⟨s0, s1, s2, s3, s4, s5, s6, s7⟩; go_simp; with_reducible rfl); rotate_left; (simp only [Act.put, z1, z2, z3, i64_w, i32_w]; rfl)
  refine one_ (i := 7) (N := some 86) (bb 13 255) rfl rfl (by kernel_rfl) (by decide) (fun K hK => ?_)
  refine Kd.R_lit_step k27 (w0 := ws) ws.heap.size 27 (by rfl) (N := 86) rfl (xs := [p]) (inner := pcells p) (ok := fun _ => True) (okp := fun _ => True) ?hr ?hp (fun _ hk => hk) trivial HB8 HB8.size (by simp) ?_
  (case hr => unfold pcells; first | (go_simp; done) | (go_simp; rfl))
  (case hp => exact (Reps.c7 (k27_mkM _ _ _ p) (Reps.none _ _)))
  intro v3 w3 ho3 hb3 hg3 hn3
  obtain ⟨a3, k3, rfl⟩ := Kd.R_slice1 ho3 (by simp)
  have HR3 := Kd.R_grown HR8 hg3 (fun k _ => by simp)
  have HL3 := Blk.grown HL8 hg3 (by simp)
  refine hK.out _ _ ⟨keepG hg3 (by simp) (hHeld.1), keepG hg3 (by simp) (hHeld.2.1), keepG hg3 (by simp) (hHeld.2.2.1), keepG hg3 (by simp) (hHeld.2.2.2.1), keepG hg3 (by simp) (hHeld.2.2.2.2.1), keepG hg3 (by simp) (hHeld.2.2.2.2.2.1), keepG hg3 (by simp) (hHeld.2.2.2.2.2.2.1), keepG hg3 (by simp) (hHeld.2.2.2.2.2.2.2)⟩ (fun hHeld => ?_)
  clear hK K
  refine norm_ (a' := ?_) ?_ ?_
  rotate_left
  · show Act.put _ (some 86) _ = _
    simp only [Act.put, z1, z2, z3, i64_w, i32_w]
    rfl
  refine one_ (i := 8) (N := some 87) (bb 13 511) rfl rfl (by kernel_rfl) (by decide) (fun K hK => ?_)
  refine Kd.R_append_rows_step k27 (w0 := ws) ws.heap.size (by rfl) (.tmp 84) (.tmp 86) 22 27 (.agg #[(.int .i64 0), (.int .i64 0), (.int .i64 0), (.int .i64 0), (.int .i64 0), (.int .i64 0), (.int .i64 0)]) 56 rfl Tryd.underlying22 info27 rfl (by decide) (by omega) (.slice none 0 0) [] [p] _ _ _ (fun _ => True) (fun _ => False) rfl rfl ?aO ?aR (fun _ _ h => h) (fun _ h => h.elim) ?aF ?aB ?aS ?aL ?_
  (case aR => exact (Kd.R_reads' ho3).2.2)
  (case aB => exact hb3)
  (case aF => exact fun _ _ => trivial)
  (case aO => exact HR3)
  (case aS => exact hb3.size)
  (case aL => simp)
  intro v4 w4 ho4 hb4 hg4 hat4
  obtain ⟨a4, k4, ev4⟩ := Kd.R_slice ho4
  obtain ⟨n4, en4⟩ : ∃ q_ : Nat, ([] ++ [p]).length = q_ := ⟨_, rfl⟩
  rw [en4] at ev4
  clear en4
  subst ev4
  have hn4 := ne_after HNB.out hat4 HL3.lt
  have HL4 := Blk.grown HL3 hg4 HNB.out
  have hfz : w4.frozen? ⟨B, 1, none⟩ = false := HL4.free 1
  have hc4 : w4.cell? ⟨B, 1, none⟩ = some (.slice none 0 0) := HL4.cell rfl
  refine hK.out _ _ ⟨keepG hg4 HNB.out (hHeld.1), keepG hg4 HNX.out (hHeld.2.1), keepG hg4 HNX.out (hHeld.2.2.1), keepG hg4 HNX.out (hHeld.2.2.2.1), keepG hg4 HNX.out (hHeld.2.2.2.2.1), keepG hg4 HNX.out (hHeld.2.2.2.2.2.1), keepG hg4 HNX.out (hHeld.2.2.2.2.2.2.1), keepG hg4 HNX.out (hHeld.2.2.2.2.2.2.2)⟩ (fun hHeld => ?_)
  clear hK K
  refine norm_ (a' := ?_) ?_ ?_
  rotate_left
  · show Act.put _ (some 87) _ = _
    simp only [Act.put, z1, z2, z3, i64_w, i32_w]
    rfl
  refine pure_ (i := 9) (N := some 88) (v := ?_) (a' := ?_) (bb 13 1023) rfl rfl (by kernel_rfl) (fun _ _ _ h => h) (Or.inl ⟨by rfl, ?_⟩) ?_ ?_
  rotate_left; (intro w'; go_simp; with_reducible rfl); rotate_left; (simp only [Act.put, z1, z2, z3, i64_w, i32_w]; rfl)
  refine pure_ (i := 10) (N := some 89) (v := ?_) (a' := ?_) (bb 13 2047) rfl rfl (by kernel_rfl) (fun _ _ _ h => h) (Or.inl ⟨by rfl, ?_⟩) ?_ ?_
  rotate_left; (intro w'; go_simp; with_reducible rfl); rotate_left; (simp only [Act.put, z1, z2, z3, i64_w, i32_w]; rfl)
  refine pure_ (i := 11) (N := some 90) (v := ?_) (a' := ?_) (bb 13 4095) rfl rfl (by kernel_rfl) (fun _ _ _ h => h) (Or.inl ⟨by rfl, ?_⟩) ?_ ?_
  rotate_left; (intro w'; go_simp; with_reducible rfl); rotate_left; (simp only [Act.put, z1, z2, z3, i64_w, i32_w]; rfl)
  refine last_ (i := 12) (N := none) (bb 13 8191) rfl rfl (by kernel_rfl) (by decide) (fun K hK => ?_)
  refine skip_ (w1 := ?_) (by rfl) rfl ?_ ?_
  rotate_left
  · go_simp
    rfl
  refine hK.out _ _ ?_
  clear hK K
  refine done_ (by kernel_rfl) ?_
  go_wp2
  go_ret
  exact ⟨rfl, hb4.setCell (p := ⟨B, 1, none⟩) hBb _, _, HL4.set 1 _, Kd.R_set ho4 HL4.heap (by decide) 1 _, hn4, fun k t C hk hkB hkv => (((hk.belowS hbw2).grown hg3 (by simp)).grown hg4 hkv).set_other ⟨B, 1, none⟩ hkB _⟩
set_option maxRecDepth 100000 in
set_option maxHeartbeats 4000000 in
theorem takes_none (ws : World) (B : Nat) (acc clo : Int) (bk : List Bool) (p : S27) (w : World) (hbel : Below ws.heap.size ws w) (hBb : ws.heap.size ≤ B) (hB : Led w B acc (.slice none 0 0) clo bk) (hf : formedB acc p = true) (o : Nat) (ho : p.f6 = (o : Int)) (hk : p.f0 = 3) :
    Calls Tryd.prog 51 #[.pointer (some ⟨B, 0, none⟩), pv p] w fun e w' => e = .returned (.bool false) ∧ Below w.heap.size w w' := by
  have c0 : w.cell? ⟨B, 0, none⟩ = some (.int .i64 acc) := hB.cell rfl
  have c1 : w.cell? ⟨B, 1, none⟩ = some (.slice none 0 0) := hB.cell rfl
  have e0 := box_cells w p 0 _ rfl 27
  have e1 := box_cells w p 1 _ rfl 27
  have e2 := box_cells w p 2 _ rfl 27
  have e3 := box_cells w p 3 _ rfl 27
  have e4 := box_cells w p 4 _ rfl 27
  have e5 := box_cells w p 5 _ rfl 27
  have e6 := box_cells w p 6 _ rfl 27
  have c0' := c_old (o := .cells (pcells p).toArray 27) c0
  have c1' := c_old (o := .cells (pcells p).toArray 27) c1
  have HNX := Lib.hid (show some w.heap.size ≠ (Value.slice none 0 0).ownBlock from fun e => by cases e)
  have HNB := Lib.hid (show some B ≠ (Value.slice none 0 0).ownBlock from fun e => by cases e)
  have hk3 : (p.f0 == 3) = true := beq_iff_eq.2 hk
  have HO := Lib.hid ho
  clear hk ho
  unfold pv
  unfold pcells at c0' c1' e0 e1 e2 e3 e4 e5 e6
  clear c0 c1
  go_enter Tryd.func51, Tryd.ntmps51
  go_wp2
  generalize hw1 : w.alloc (.cells [Value.int .i64 p.f0, .int .i64 p.f1, .int .i64 p.f2, .int .i64 p.f3, .int .i64 p.f4, .int .i64 p.f5, .int .i64 p.f6].toArray 27) = w1 at *
  have hbw : Below w.heap.size w w1.drew := below_drew1 (by rw [← hw1]; exact (Below.refl _ _).alloc (Nat.le_refl _) _)
  refine start_ (n := 31) (S := fun w' => w'.cell? ⟨B, 0, none⟩ = some (.int .i64 acc) ∧ w'.cell? ⟨w.heap.size, 0, none⟩ = some (.int .i64 p.f0) ∧ w'.cell? ⟨w.heap.size, 1, none⟩ = some (.int .i64 p.f1) ∧ w'.cell? ⟨w.heap.size, 2, none⟩ = some (.int .i64 p.f2) ∧ w'.cell? ⟨w.heap.size, 3, none⟩ = some (.int .i64 p.f3) ∧ w'.cell? ⟨w.heap.size, 4, none⟩ = some (.int .i64 p.f4) ∧ w'.cell? ⟨w.heap.size, 5, none⟩ = some (.int .i64 p.f5) ∧ w'.cell? ⟨w.heap.size, 6, none⟩ = some (.int .i64 p.f6)) (ds := []) (bb 31 0) (by kernel_rfl) rfl rfl ⟨c0', e0, e1, e2, e3, e4, e5, e6⟩ (fun hHeld => ?_)
  generalize w1.drew = wd at *
  refine pure_ (i := 0) (N := (some 12)) (v := ?_) (a' := ?_) (bb 31 1) rfl rfl (by kernel_rfl) (fun _ _ _ h => h) (Or.inl ⟨by rfl, ?_⟩) ?_ ?_
  rotate_left; (intro w'; go_simp; with_reducible rfl); rotate_left; (simp only [Act.put, z1, z2, z3, i64_w, i32_w]; rfl)
  refine pure_ (i := 1) (N := (some 13)) (v := ?_) (a' := ?_) (bb 31 3) rfl rfl (by kernel_rfl) (fun _ _ _ h => h) (Or.inl ⟨by rfl, ?_⟩) ?_ ?_
  rotate_left; (intro w'; go_simp; with_reducible rfl); rotate_left; (simp only [Act.put, z1, z2, z3, i64_w, i32_w]; rfl)
  refine pure_ (i := 2) (N := (some 14)) (v := ?_) (a' := ?_) (bb 31 7) rfl rfl (by kernel_rfl) (fun _ _ _ h => h) (Or.inl ⟨by rfl, ?_⟩) ?_ ?_
  rotate_left; (intro w'; go_simp; with_reducible rfl); rotate_left; (simp only [Act.put, z1, z2, z3, i64_w, i32_w]; rfl)
  refine take_ (i := 3) (N := (some 15)) (v := ?_) (a' := ?_) (bb 31 15) rfl rfl (by kernel_rfl) (fun _ _ _ h => h) (Or.inl ⟨by rfl, ?_⟩) hHeld ?_ ?_
  rotate_left; (rintro w' ⟨s0, s1, s2, s3, s4, s5, s6, s7⟩; go_simp; with_reducible rfl); rotate_left; (simp only [Act.put, z1, z2, z3, i64_w, i32_w]; rfl)
  refine pure_ (i := 4) (N := (some 16)) (v := ?_) (a' := ?_) (bb 31 31) rfl rfl (by kernel_rfl) (fun _ _ _ h => h) (Or.inl ⟨by rfl, ?_⟩) ?_ ?_
  rotate_left; (intro w'; go_simp; with_reducible rfl); rotate_left; (simp only [Act.put, z1, z2, z3, i64_w, i32_w]; rfl)
  refine pure_ (i := 5) (N := (some 17)) (v := ?_) (a' := ?_) (bb 31 63) rfl rfl (by kernel_rfl) (fun _ _ _ h => h) (Or.inl ⟨by rfl, ?_⟩) ?_ ?_
  rotate_left; (intro w'; go_simp; with_reducible rfl); rotate_left; (simp only [Act.put, z1, z2, z3, i64_w, i32_w]; rfl)
  refine pure_ (i := 6) (N := (some 18)) (v := ?_) (a' := ?_) (bb 31 127) rfl rfl (by kernel_rfl) (fun _ _ _ h => h) (Or.inl ⟨by rfl, ?_⟩) ?_ ?_
  rotate_left; (intro w'; go_simp; with_reducible rfl); rotate_left; (simp only [Act.put, z1, z2, z3, i64_w, i32_w]; rfl)
  refine pure_ (i := 7) (N := (some 19)) (v := ?_) (a' := ?_) (bb 31 255) rfl rfl (by kernel_rfl) (fun _ _ _ h => h) (Or.inl ⟨by rfl, ?_⟩) ?_ ?_
  rotate_left; (intro w'; go_simp; with_reducible rfl); rotate_left; (simp only [Act.put, z1, z2, z3, i64_w, i32_w]; rfl)
  refine take_ (i := 8) (N := (some 20)) (v := ?_) (a' := ?_) (bb 31 511) rfl rfl (by kernel_rfl) (fun _ _ _ h => h) (Or.inl ⟨by rfl, ?_⟩) hHeld ?_ ?_
  rotate_left; (rintro w' ⟨s0, s1, s2, s3, s4, s5, s6, s7⟩; go_simp; with_reducible rfl); rotate_left; (simp only [Act.put, z1, z2, z3, i64_w, i32_w]; rfl)
  refine one_ (i := 9) (N := (some 21)) (bb 31 1023) rfl rfl (by kernel_rfl) (by decide) (fun K hK => ?_)
  refine goes_ Tryd.func63 (by kernel_rfl) rfl #[.agg #[.int .i64 p.f0, .int .i64 p.f1, .int .i64 p.f2, .int .i64 p.f3, .int .i64 p.f4, .int .i64 p.f5, .int .i64 p.f6], .int .i64 acc] (by rfl) rfl rfl (by (try simp only [List.map_toArray, List.map_cons, List.map_nil]); first | done | rfl) ?_
  refine (formed_walk' acc p true hf _).mono ?_
  rintro e w2 ⟨rfl, hb1⟩
  refine ⟨_, rfl, ?_⟩
  refine hK.out _ _ ⟨keepB hb1 hHeld.1, keepB hb1 hHeld.2.1, keepB hb1 hHeld.2.2.1, keepB hb1 hHeld.2.2.2.1, keepB hb1 hHeld.2.2.2.2.1, keepB hb1 hHeld.2.2.2.2.2.1, keepB hb1 hHeld.2.2.2.2.2.2.1, keepB hb1 hHeld.2.2.2.2.2.2.2⟩ (fun hHeld => ?_)
  clear hK K
  refine norm_ (a' := ?_) ?_ ?_
  rotate_left
  · show Act.put _ (some 21) _ = _
    simp only [Act.put, z1, z2, z3, i64_w, i32_w]
    rfl
  refine pure_ (i := 10) (N := (some 22)) (v := ?_) (a' := ?_) (bb 31 2047) rfl rfl (by kernel_rfl) (fun _ _ _ h => h) (Or.inl ⟨by rfl, ?_⟩) ?_ ?_
  rotate_left; (intro w'; go_simp; with_reducible rfl); rotate_left; (simp only [Act.put, z1, z2, z3, i64_w, i32_w]; rfl)
  refine pure_ (i := 11) (N := (some 23)) (v := ?_) (a' := ?_) (bb 31 4095) rfl rfl (by kernel_rfl) (fun _ _ _ h => h) (Or.inl ⟨by rfl, ?_⟩) ?_ ?_
  rotate_left; (intro w'; go_simp; with_reducible rfl); rotate_left; (simp only [Act.put, z1, z2, z3, i64_w, i32_w]; rfl)
  refine pure_ (i := 12) (N := (some 24)) (v := ?_) (a' := ?_) (bb 31 8191) rfl rfl (by kernel_rfl) (fun _ _ _ h => h) (Or.inl ⟨by rfl, ?_⟩) ?_ ?_
  rotate_left; (intro w'; go_simp; with_reducible rfl); rotate_left; (simp only [Act.put, z1, z2, z3, i64_w, i32_w]; rfl)
  refine pure_ (i := 13) (N := (some 25)) (v := ?_) (a' := ?_) (bb 31 16383) rfl rfl (by kernel_rfl) (fun _ _ _ h => h) (Or.inl ⟨by rfl, ?_⟩) ?_ ?_
  rotate_left; (intro w'; go_simp; with_reducible rfl); rotate_left; (simp only [Act.put, z1, z2, z3, i64_w, i32_w]; rfl)
  refine pure_ (i := 14) (N := (some 26)) (v := ?_) (a' := ?_) (bb 31 32767) rfl rfl (by kernel_rfl) (fun _ _ _ h => h) (Or.inl ⟨by rfl, ?_⟩) ?_ ?_
  rotate_left; (intro w'; go_simp; with_reducible rfl); rotate_left; (simp only [Act.put, z1, z2, z3, i64_w, i32_w]; rfl)
  refine pure_ (i := 15) (N := (some 27)) (v := ?_) (a' := ?_) (bb 31 65535) rfl rfl (by kernel_rfl) (fun _ _ _ h => h) (Or.inl ⟨by rfl, ?_⟩) ?_ ?_
  rotate_left; (intro w'; go_simp; with_reducible rfl); rotate_left; (simp only [Act.put, z1, z2, z3, i64_w, i32_w]; rfl)
  refine pure_ (i := 16) (N := (some 28)) (v := undef) (a' := ?_) (bb 31 131071) rfl rfl (by kernel_rfl) (fun _ _ _ h => h) (Or.inr ⟨by rfl, rfl⟩) ?_ ?_
  rotate_left; (simp only [Act.put, z1, z2, z3, i64_w, i32_w]; rfl)
  refine pure_ (i := 17) (N := (some 29)) (v := undef) (a' := ?_) (bb 31 262143) rfl rfl (by kernel_rfl) (fun _ _ _ h => h) (Or.inr ⟨by rfl, rfl⟩) ?_ ?_
  rotate_left; (simp only [Act.put, z1, z2, z3, i64_w, i32_w]; rfl)
  refine pure_ (i := 18) (N := (some 30)) (v := undef) (a' := ?_) (bb 31 524287) rfl rfl (by kernel_rfl) (fun _ _ _ h => h) (Or.inr ⟨by rfl, rfl⟩) ?_ ?_
  rotate_left; (simp only [Act.put, z1, z2, z3, i64_w, i32_w]; rfl)
  refine pure_ (i := 19) (N := (some 31)) (v := undef) (a' := ?_) (bb 31 1048575) rfl rfl (by kernel_rfl) (fun _ _ _ h => h) (Or.inr ⟨by rfl, rfl⟩) ?_ ?_
  rotate_left; (simp only [Act.put, z1, z2, z3, i64_w, i32_w]; rfl)
  refine pure_ (i := 20) (N := (some 32)) (v := undef) (a' := ?_) (bb 31 2097151) rfl rfl (by kernel_rfl) (fun _ _ _ h => h) (Or.inr ⟨by rfl, rfl⟩) ?_ ?_
  rotate_left; (simp only [Act.put, z1, z2, z3, i64_w, i32_w]; rfl)
  refine pure_ (i := 21) (N := (some 33)) (v := undef) (a' := ?_) (bb 31 4194303) rfl rfl (by kernel_rfl) (fun _ _ _ h => h) (Or.inr ⟨by rfl, rfl⟩) ?_ ?_
  rotate_left; (simp only [Act.put, z1, z2, z3, i64_w, i32_w]; rfl)
  refine pure_ (i := 22) (N := (some 34)) (v := undef) (a' := ?_) (bb 31 8388607) rfl rfl (by kernel_rfl) (fun _ _ _ h => h) (Or.inr ⟨by rfl, rfl⟩) ?_ ?_
  rotate_left; (simp only [Act.put, z1, z2, z3, i64_w, i32_w]; rfl)
  refine pure_ (i := 23) (N := (some 35)) (v := undef) (a' := ?_) (bb 31 16777215) rfl rfl (by kernel_rfl) (fun _ _ _ h => h) (Or.inr ⟨by rfl, rfl⟩) ?_ ?_
  rotate_left; (simp only [Act.put, z1, z2, z3, i64_w, i32_w]; rfl)
  refine pure_ (i := 24) (N := (some 36)) (v := undef) (a' := ?_) (bb 31 33554431) rfl rfl (by kernel_rfl) (fun _ _ _ h => h) (Or.inr ⟨by rfl, rfl⟩) ?_ ?_
  rotate_left; (simp only [Act.put, z1, z2, z3, i64_w, i32_w]; rfl)
  refine pure_ (i := 25) (N := (some 37)) (v := undef) (a' := ?_) (bb 31 67108863) rfl rfl (by kernel_rfl) (fun _ _ _ h => h) (Or.inr ⟨by rfl, rfl⟩) ?_ ?_
  rotate_left; (simp only [Act.put, z1, z2, z3, i64_w, i32_w]; rfl)
  refine pure_ (i := 26) (N := (some 38)) (v := undef) (a' := ?_) (bb 31 134217727) rfl rfl (by kernel_rfl) (fun _ _ _ h => h) (Or.inr ⟨by rfl, rfl⟩) ?_ ?_
  rotate_left; (simp only [Act.put, z1, z2, z3, i64_w, i32_w]; rfl)
  refine pure_ (i := 27) (N := (some 39)) (v := undef) (a' := ?_) (bb 31 268435455) rfl rfl (by kernel_rfl) (fun _ _ _ h => h) (Or.inr ⟨by rfl, rfl⟩) ?_ ?_
  rotate_left; (simp only [Act.put, z1, z2, z3, i64_w, i32_w]; rfl)
  refine pure_ (i := 28) (N := (some 40)) (v := undef) (a' := ?_) (bb 31 536870911) rfl rfl (by kernel_rfl) (fun _ _ _ h => h) (Or.inr ⟨by rfl, rfl⟩) ?_ ?_
  rotate_left; (simp only [Act.put, z1, z2, z3, i64_w, i32_w]; rfl)
  refine pure_ (i := 29) (N := (some 41)) (v := ?_) (a' := ?_) (bb 31 1073741823) rfl rfl (by kernel_rfl) (fun _ _ _ h => h) (Or.inl ⟨by rfl, ?_⟩) ?_ ?_
  rotate_left; (intro w'; go_simp; with_reducible rfl); rotate_left; (simp only [Act.put, z1, z2, z3, i64_w, i32_w]; rfl)
  refine pure_ (i := 30) (N := (some 42)) (v := ?_) (a' := ?_) (bb 31 2147483647) rfl rfl (by kernel_rfl) (fun _ _ _ h => h) (Or.inl ⟨by rfl, ?_⟩) ?_ ?_
  rotate_left; (intro w'; go_simp; with_reducible rfl); rotate_left; (simp only [Act.put, z1, z2, z3, i64_w, i32_w]; rfl)
  refine done_ (by kernel_rfl) ?_
  have hbw2 : Below w.heap.size w w2.drew := below_drew1 (Below.trans hbw (hb1.mono hbw.size))
  have HB8 : Below ws.heap.size ws w2.drew := Below.trans hbel (hbw2.mono hbel.size)
  have HL8 := hB.belowS hbw2
  have g0 : w2.drew.cell? ⟨w.heap.size, 0, none⟩ = some (.int .i64 p.f0) := hHeld.2.1
  have g1 : w2.drew.cell? ⟨w.heap.size, 1, none⟩ = some (.int .i64 p.f1) := hHeld.2.2.1
  have g2 : w2.drew.cell? ⟨w.heap.size, 2, none⟩ = some (.int .i64 p.f2) := hHeld.2.2.2.1
  have g3 : w2.drew.cell? ⟨w.heap.size, 3, none⟩ = some (.int .i64 p.f3) := hHeld.2.2.2.2.1
  have g4 : w2.drew.cell? ⟨w.heap.size, 4, none⟩ = some (.int .i64 p.f4) := hHeld.2.2.2.2.2.1
  have g5 : w2.drew.cell? ⟨w.heap.size, 5, none⟩ = some (.int .i64 p.f5) := hHeld.2.2.2.2.2.2.1
  have g6 : w2.drew.cell? ⟨w.heap.size, 6, none⟩ = some (.int .i64 p.f6) := hHeld.2.2.2.2.2.2.2
  have gk : w2.cell? ⟨w.heap.size, 0, none⟩ = some (.int .i64 p.f0) := g0
  rw [HO.out] at g6
  clear hHeld c0' c1' e0 e1 e2 e3 e4 e5 e6 hw1
  go_wp2
  have hx1 : decide ((0 : Int) ≤ (o : Int)) = true := decide_eq_true (by omega)
  refine start_ (n := 27) (S := fun w' => w'.cell? ⟨w.heap.size, 6, none⟩ = some (.int .i64 (o : Int))) (ds := []) (bb 27 0) (by kernel_rfl) rfl rfl (g6) (fun hHeld => ?_)
  generalize w2.drew = wd2 at *
  refine pure_ (i := 0) (N := some 46) (v := ?_) (a' := ?_) (bb 27 1) rfl rfl (by kernel_rfl) (fun _ _ _ h => h) (Or.inl ⟨by rfl, ?_⟩) ?_ ?_
  rotate_left; (intro w'; go_simp; with_reducible rfl); rotate_left; (simp only [Act.put, z1, z2, z3, i64_w, i32_w]; rfl)
  refine pure_ (i := 2) (N := some 48) (v := ?_) (a' := ?_) (bb 27 5) rfl rfl (by kernel_rfl) (fun _ _ _ h => h) (Or.inl ⟨by rfl, ?_⟩) ?_ ?_
  rotate_left; (intro w'; go_simp; with_reducible rfl); rotate_left; (simp only [Act.put, z1, z2, z3, i64_w, i32_w]; rfl)
  refine take_ (i := 1) (N := some 47) (v := ?_) (a' := ?_) (bb 27 7) rfl rfl (by kernel_rfl) (fun _ _ _ h => h) (Or.inl ⟨by rfl, ?_⟩) hHeld ?_ ?_
  rotate_left; (intro w' s0; go_simp; with_reducible rfl); rotate_left; (simp only [Act.put, z1, z2, z3, i64_w, i32_w]; rfl)
  refine pure_ (i := 3) (N := some 49) (v := ?_) (a' := ?_) (bb 27 15) rfl rfl (by kernel_rfl) (fun _ _ _ h => h) (Or.inl ⟨by rfl, ?_⟩) ?_ ?_
  rotate_left; (intro w'; go_simp; with_reducible rfl); rotate_left; (simp only [Act.put, z1, z2, z3, i64_w, i32_w]; rfl)
  refine pure_ (i := 4) (N := some 50) (v := ?_) (a' := ?_) (bb 27 31) rfl rfl (by kernel_rfl) (fun _ _ _ h => h) (Or.inl ⟨by rfl, ?_⟩) ?_ ?_
  rotate_left; (intro w'; go_simp; with_reducible rfl); rotate_left; (simp only [Act.put, z1, z2, z3, i64_w, i32_w]; rfl)
  refine pure_ (i := 5) (N := some 51) (v := undef) (a' := ?_) (bb 27 63) rfl rfl (by kernel_rfl) (fun _ _ _ h => h) (Or.inr ⟨by rfl, rfl⟩) ?_ ?_
  rotate_left; (simp only [Act.put, z1, z2, z3, i64_w, i32_w]; rfl)
  refine pure_ (i := 6) (N := some 52) (v := undef) (a' := ?_) (bb 27 127) rfl rfl (by kernel_rfl) (fun _ _ _ h => h) (Or.inr ⟨by rfl, rfl⟩) ?_ ?_
  rotate_left; (simp only [Act.put, z1, z2, z3, i64_w, i32_w]; rfl)
  refine pure_ (i := 7) (N := some 53) (v := undef) (a' := ?_) (bb 27 255) rfl rfl (by kernel_rfl) (fun _ _ _ h => h) (Or.inr ⟨by rfl, rfl⟩) ?_ ?_
  rotate_left; (simp only [Act.put, z1, z2, z3, i64_w, i32_w]; rfl)
  refine pure_ (i := 8) (N := some 54) (v := undef) (a' := ?_) (bb 27 511) rfl rfl (by kernel_rfl) (fun _ _ _ h => h) (Or.inr ⟨by rfl, rfl⟩) ?_ ?_
  rotate_left; (simp only [Act.put, z1, z2, z3, i64_w, i32_w]; rfl)
  refine pure_ (i := 9) (N := some 55) (v := undef) (a' := ?_) (bb 27 1023) rfl rfl (by kernel_rfl) (fun _ _ _ h => h) (Or.inr ⟨by rfl, rfl⟩) ?_ ?_
  rotate_left; (simp only [Act.put, z1, z2, z3, i64_w, i32_w]; rfl)
  refine pure_ (i := 10) (N := some 56) (v := undef) (a' := ?_) (bb 27 2047) rfl rfl (by kernel_rfl) (fun _ _ _ h => h) (Or.inr ⟨by rfl, rfl⟩) ?_ ?_
  rotate_left; (simp only [Act.put, z1, z2, z3, i64_w, i32_w]; rfl)
  refine pure_ (i := 11) (N := some 57) (v := undef) (a' := ?_) (bb 27 4095) rfl rfl (by kernel_rfl) (fun _ _ _ h => h) (Or.inr ⟨by rfl, rfl⟩) ?_ ?_
  rotate_left; (simp only [Act.put, z1, z2, z3, i64_w, i32_w]; rfl)
  refine pure_ (i := 12) (N := some 58) (v := ?_) (a' := ?_) (bb 27 8191) rfl rfl (by kernel_rfl) (fun _ _ _ h => h) (Or.inl ⟨by rfl, ?_⟩) ?_ ?_
  rotate_left; (intro w'; go_simp; with_reducible rfl); rotate_left; (simp only [Act.put, z1, z2, z3, i64_w, i32_w]; rfl)
  refine pure_ (i := 13) (N := some 59) (v := ?_) (a' := ?_) (bb 27 16383) rfl rfl (by kernel_rfl) (fun _ _ _ h => h) (Or.inl ⟨by rfl, ?_⟩) ?_ ?_
  rotate_left; (intro w'; go_simp; with_reducible rfl); rotate_left; (simp only [Act.put, z1, z2, z3, i64_w, i32_w]; rfl)
  refine pure_ (i := 14) (N := some 60) (v := undef) (a' := ?_) (bb 27 32767) rfl rfl (by kernel_rfl) (fun _ _ _ h => h) (Or.inr ⟨by rfl, rfl⟩) ?_ ?_
  rotate_left; (simp only [Act.put, z1, z2, z3, i64_w, i32_w]; rfl)
  refine pure_ (i := 15) (N := some 61) (v := undef) (a' := ?_) (bb 27 65535) rfl rfl (by kernel_rfl) (fun _ _ _ h => h) (Or.inr ⟨by rfl, rfl⟩) ?_ ?_
  rotate_left; (simp only [Act.put, z1, z2, z3, i64_w, i32_w]; rfl)
  refine pure_ (i := 16) (N := some 62) (v := undef) (a' := ?_) (bb 27 131071) rfl rfl (by kernel_rfl) (fun _ _ _ h => h) (Or.inr ⟨by rfl, rfl⟩) ?_ ?_
  rotate_left; (simp only [Act.put, z1, z2, z3, i64_w, i32_w]; rfl)
  refine pure_ (i := 17) (N := some 63) (v := undef) (a' := ?_) (bb 27 262143) rfl rfl (by kernel_rfl) (fun _ _ _ h => h) (Or.inr ⟨by rfl, rfl⟩) ?_ ?_
  rotate_left; (simp only [Act.put, z1, z2, z3, i64_w, i32_w]; rfl)
  refine pure_ (i := 18) (N := some 64) (v := undef) (a' := ?_) (bb 27 524287) rfl rfl (by kernel_rfl) (fun _ _ _ h => h) (Or.inr ⟨by rfl, rfl⟩) ?_ ?_
  rotate_left; (simp only [Act.put, z1, z2, z3, i64_w, i32_w]; rfl)
  refine pure_ (i := 19) (N := some 65) (v := undef) (a' := ?_) (bb 27 1048575) rfl rfl (by kernel_rfl) (fun _ _ _ h => h) (Or.inr ⟨by rfl, rfl⟩) ?_ ?_
  rotate_left; (simp only [Act.put, z1, z2, z3, i64_w, i32_w]; rfl)
  refine pure_ (i := 20) (N := some 66) (v := undef) (a' := ?_) (bb 27 2097151) rfl rfl (by kernel_rfl) (fun _ _ _ h => h) (Or.inr ⟨by rfl, rfl⟩) ?_ ?_
  rotate_left; (simp only [Act.put, z1, z2, z3, i64_w, i32_w]; rfl)
  refine pure_ (i := 21) (N := some 67) (v := undef) (a' := ?_) (bb 27 4194303) rfl rfl (by kernel_rfl) (fun _ _ _ h => h) (Or.inr ⟨by rfl, rfl⟩) ?_ ?_
  rotate_left; (simp only [Act.put, z1, z2, z3, i64_w, i32_w]; rfl)
  refine pure_ (i := 22) (N := some 68) (v := undef) (a' := ?_) (bb 27 8388607) rfl rfl (by kernel_rfl) (fun _ _ _ h => h) (Or.inr ⟨by rfl, rfl⟩) ?_ ?_
  rotate_left; (simp only [Act.put, z1, z2, z3, i64_w, i32_w]; rfl)
  refine pure_ (i := 23) (N := some 69) (v := undef) (a' := ?_) (bb 27 16777215) rfl rfl (by kernel_rfl) (fun _ _ _ h => h) (Or.inr ⟨by rfl, rfl⟩) ?_ ?_
  rotate_left; (simp only [Act.put, z1, z2, z3, i64_w, i32_w]; rfl)
  refine pure_ (i := 24) (N := some 70) (v := undef) (a' := ?_) (bb 27 33554431) rfl rfl (by kernel_rfl) (fun _ _ _ h => h) (Or.inr ⟨by rfl, rfl⟩) ?_ ?_
  rotate_left; (simp only [Act.put, z1, z2, z3, i64_w, i32_w]; rfl)
  refine pure_ (i := 25) (N := some 71) (v := undef) (a' := ?_) (bb 27 67108863) rfl rfl (by kernel_rfl) (fun _ _ _ h => h) (Or.inr ⟨by rfl, rfl⟩) ?_ ?_
  rotate_left; (simp only [Act.put, z1, z2, z3, i64_w, i32_w]; rfl)
  refine pure_ (i := 26) (N := some 72) (v := ?_) (a' := ?_) (bb 27 134217727) rfl rfl (by kernel_rfl) (fun _ _ _ h => h) (Or.inl ⟨by rfl, ?_⟩) ?_ ?_
  rotate_left; (intro w'; go_simp; with_reducible rfl); rotate_left; (simp only [Act.put, z1, z2, z3, i64_w, i32_w]; rfl)
  refine done_ (by kernel_rfl) ?_
  go_wp2
  go_ret
  exact ⟨rfl, hbw2⟩
end Go.Proofs.YtooogaogbffjfaaDoor.Ext
end
section
set_option linter.unusedVariables false
set_option linter.unusedSimpArgs false
namespace Go.Proofs.YtooogaogbffjfaaDoor.Ext
set_option maxRecDepth 100000
open Go.RowKit Go.Proofs.YtooogaogbffjfaaDoorW.PrintWords Go.Proofs.YtooogaogbffjfaaDoorW.PrintLast Go.Proofs.YtooogaogbffjfaaDoorW.PrintMore Go.Proofs.YtooogaogbffjfaaDoor.PK Go.Proofs.YtooogaogbffjfaaDoor.Bk
def Ledger (ws w : World) (B : Nat) (acc clo : Int) (ps : List S27) : Prop :=
  Below ws.heap.size ws w ∧ ws.heap.size ≤ B ∧ ∃ v, Led w B acc v clo (backs ps) ∧ Kd.R k27 27 w ws.heap.size (fun _ => True) v ps ∧ some B ≠ v.ownBlock ∧ (ps = [] → v = .slice none 0 0)
theorem Ledger.below {ws w w' : World} {B : Nat} {acc clo : Int} {ps : List S27} (h : Ledger ws w B acc clo ps) (hb : Below w.heap.size w w') : Ledger ws w' B acc clo ps := by
  obtain ⟨h1, h2, v, h3, h4, h5, h6⟩ := h
  exact ⟨Below.trans h1 (hb.mono h1.size), h2, v, h3.belowS hb, Kd.R_below h4 hb, h5, h6⟩
theorem formed_of {n : Int} {p : S27} (h : formedB n p = true) : ((p.f0 = 1 ∨ p.f0 = 2) ∧ p.f6 = -1) ∨ (p.f0 = 3 ∧ 0 ≤ p.f6 ∧ p.f6 ≤ 199) := by
  unfold formedB at h
  exact (of_decide_eq_true h).2.2.2.2.2.2
theorem getD_some {l : List Bool} {i : Nat} (h : i < l.length) : l[i]? = some (l.getD i false) := by
  rw [List.getD_eq_getElem?_getD, List.getElem?_eq_getElem h]; rfl
theorem dayOf_last (ps : List S27) (m : Nat) (h : ps.length = m + 1) : dayOf ps = (rd_T27 ps (m : Int)).f1 := by
  unfold dayOf rd_T27
  rw [List.getLast?_eq_getElem?, h, Nat.add_sub_cancel, Int.toNat_natCast, List.getD_eq_getElem?_getD, List.getElem?_eq_getElem (by omega)]
  rfl
def Fram (w w' : World) (B : Nat) : Prop := ∀ (k : Nat) (t : TypeId) (C : List Value), Blk w k t C → k ≠ B → (∀ v, w.cell? ⟨B, 1, none⟩ = some v → some k ≠ v.ownBlock) → Blk w' k t C
theorem takes_frame (ws w : World) (B : Nat) (acc clo : Int) (ps : List S27) (p : S27) (hL : Ledger ws w B acc clo ps) (hps : ps.length ≤ 200) :
    Calls Tryd.prog 51 #[.pointer (some ⟨B, 0, none⟩), pv p] w fun e w' => e = .returned (.bool (nextB acc ps p)) ∧ Ledger ws w' B acc clo (if nextB acc ps p then ps ++ [p] else ps) ∧ Fram w w' B := by
  have hno : nextB acc ps p = false → (Calls Tryd.prog 51 #[.pointer (some ⟨B, 0, none⟩), pv p] w fun e w' => e = .returned (.bool false) ∧ Below w.heap.size w w') →
      Calls Tryd.prog 51 #[.pointer (some ⟨B, 0, none⟩), pv p] w fun e w' => e = .returned (.bool (nextB acc ps p)) ∧ Ledger ws w' B acc clo (if nextB acc ps p then ps ++ [p] else ps) ∧ Fram w w' B := by
    intro hn hc
    rw [hn]
    exact hc.mono fun e w' ⟨he, hb⟩ => ⟨he, hL.below hb, fun k t C hk _ _ => hk.belowS hb⟩
  have hyes (v : Value) (hv : w.cell? ⟨B, 1, none⟩ = some v) (bk : List Bool) (hbk : bk = backs (ps ++ [p])) : nextB acc ps p = true → (Calls Tryd.prog 51 #[.pointer (some ⟨B, 0, none⟩), pv p] w fun e w' => e = .returned (.bool true) ∧ Below ws.heap.size ws w' ∧ ∃ v', Led w' B acc v' clo bk ∧ Kd.R k27 27 w' ws.heap.size (fun _ => True) v' (ps ++ [p]) ∧ some B ≠ v'.ownBlock ∧ (∀ (k : Nat) (t : TypeId) (C : List Value), Blk w k t C → k ≠ B → some k ≠ v.ownBlock → Blk w' k t C)) →
      Calls Tryd.prog 51 #[.pointer (some ⟨B, 0, none⟩), pv p] w fun e w' => e = .returned (.bool (nextB acc ps p)) ∧ Ledger ws w' B acc clo (if nextB acc ps p then ps ++ [p] else ps) ∧ Fram w w' B := by
    intro hn hc
    rw [hn]
    subst hbk
    exact hc.mono fun e w' ⟨he, hb, v', h1, h2, h3, h4⟩ => ⟨he, ⟨hb, hL.2.1, v', h1, h2, h3, fun e => by simp at e⟩, fun k t C hk hkB hkv => h4 k t C hk hkB (hkv v hv)⟩
  obtain ⟨hbel, hBb, v, hB, hR, hne, h0⟩ := hL
  by_cases hfull : 200 ≤ ps.length
  · obtain ⟨A, c, rfl⟩ := Kd.R_slice hR
    exact hno (by unfold nextB; rw [decide_eq_false (by omega), Bool.false_and]) (takes_full B acc clo A c ps.length _ p w hB hfull)
  have hlt : decide (ps.length < 200) = true := decide_eq_true (by omega)
  cases hf : formedB acc p with
  | false =>
    obtain ⟨A, c, rfl⟩ := Kd.R_slice hR
    exact hno (by unfold nextB; rw [hf, Bool.false_and, Bool.and_false]) (takes_odd B acc clo A c ps.length _ p w hB (by omega) hf)
  | true =>
    have hform := formed_of hf
    by_cases hnil : ps = []
    · obtain rfl := h0 hnil
      subst hnil
      by_cases hk : p.f0 = 3
      · obtain ⟨o, ho⟩ := Int.eq_ofNat_of_zero_le (show 0 ≤ p.f6 by rcases hform with h | h <;> omega)
        refine hno ?_ (takes_none ws B acc clo _ p w hbel hBb hB hf o ho hk)
        unfold nextB
        rw [decide_eq_false (show ¬ p.f0 ≠ 3 by omega), decide_eq_false (show ¬ p.f6 < (([] : List S27).length : Int) by simp; omega)]
        simp
      · refine hyes _ (hB.cell rfl) (backs []) (backs_other [] p hk).symm ?_ (takes_first ws B acc clo _ p w hbel hBb hB hf hk)
        unfold nextB
        rw [hf, decide_eq_true (show p.f0 ≠ 3 from hk)]
        simp
    · have hpos : 0 < ps.length := List.length_pos_iff.2 hnil
      obtain ⟨ad, c, rfl⟩ := Kd.R_slice1 hR hpos
      obtain ⟨m, hm⟩ : ∃ m, ps.length = m + 1 := ⟨ps.length - 1, by omega⟩
      obtain ⟨_, _, hC⟩ := Kd.R_reads' hR
      obtain ⟨ad', ead, _, hq, _⟩ := at_T27 hC (m : Int) (by omega) (by omega)
      obtain rfl := Option.some.inj ead
      rw [Int.toNat_natCast] at hq
      have hday := dayOf_last ps m hm
      by_cases hd : p.f1 < (rd_T27 ps (m : Int)).f1
      · refine hno ?_ (takes_day B acc clo ad c ps.length m hm _ p (rd_T27 ps (m : Int)) w hB (by omega) hf hq hd)
        unfold nextB
        rw [decide_eq_false (show ¬ (ps = [] ∨ dayOf ps ≤ p.f1) by rw [hday]; exact fun h => h.elim (fun h => hnil h) (fun h => by omega))]
        simp
      · have hdo : decide (ps = [] ∨ dayOf ps ≤ p.f1) = true := decide_eq_true (.inr (by rw [hday]; omega))
        by_cases hk : p.f0 = 3
        · obtain ⟨o, ho⟩ := Int.eq_ofNat_of_zero_le (show 0 ≤ p.f6 by rcases hform with h | h <;> omega)
          have ho2 : o ≤ 199 := by rcases hform with h | h <;> omega
          by_cases hon : o < ps.length
          · have hgd := getD_some (l := backs ps) (i := o) (by rw [backs_len]; omega)
            have hu : rd_T27 ps (o : Int) = ps.getD o z27 := by unfold rd_T27; rw [Int.toNat_natCast]
            have hnx : nextB acc ps p = (!((backs ps).getD o false) && isBackB p (ps.getD o z27)) := by
              unfold nextB
              rw [hlt, hf, hdo, decide_eq_false (show ¬ p.f0 ≠ 3 by omega), ho, decide_eq_true (show (o : Int) < (ps.length : Int) by omega), Int.toNat_natCast]
              simp
            cases hb : (backs ps).getD o false with
            | true =>
              rw [hb] at hgd
              exact hno (by rw [hnx, hb]; rfl) (takes_twice ws B acc clo ad c ps.length m o hm _ ps p _ w hbel hBb hB hR (by omega) hne (by omega) hf hq hd hk ho hon hgd)
            | false =>
              rw [hb] at hgd
              cases hi : isBackB p (rd_T27 ps (o : Int)) with
              | false => exact hno (by rw [hnx, hb, ← hu, hi]; rfl) (takes_unlike ws B acc clo ad c ps.length m o hm _ ps p _ w hbel hBb hB hR (by omega) hne (by omega) hf hq hd hk ho hon hgd hi)
              | true => exact hyes _ (hB.cell rfl) ((backs ps).set o true) (backs_set ps p hk o ho (by omega)).symm (by rw [hnx, hb, ← hu, hi]; rfl) (takes_back ws B acc clo ad c ps.length m o hm _ ps p _ w hbel hBb hB hR (by omega) hne (by omega) hf hq hd hk ho hon hgd hi)
          · refine hno ?_ (takes_late ws B acc clo ad c ps.length m o hm _ ps p _ w hbel hBb hB hR (by omega) hne (by omega) hf hq hd hk ho (by omega))
            unfold nextB
            rw [decide_eq_false (show ¬ p.f0 ≠ 3 by omega), decide_eq_false (show ¬ p.f6 < (ps.length : Int) by omega)]
            simp
        · refine hyes _ (hB.cell rfl) (backs ps) (backs_other ps p hk).symm ?_ (takes_add ws B acc clo ad c ps.length m hm _ ps p _ w hbel hBb hB hR (by omega) hne (by omega) hf hq hd hk)
          unfold nextB
          rw [hlt, hf, hdo, decide_eq_true (show p.f0 ≠ 3 from hk)]
          simp
theorem takes_walk (ws w : World) (B : Nat) (acc clo : Int) (ps : List S27) (p : S27) (hL : Ledger ws w B acc clo ps) (hps : ps.length ≤ 200) :
    Calls Tryd.prog 51 #[.pointer (some ⟨B, 0, none⟩), pv p] w fun e w' => e = .returned (.bool (nextB acc ps p)) ∧ Ledger ws w' B acc clo (if nextB acc ps p then ps ++ [p] else ps) :=
  (takes_frame ws w B acc clo ps p hL hps).mono fun e w' h => ⟨h.1, h.2.1⟩
theorem Fram.lift {w wd w2 : World} {B : Nat} (hbw : Below w.heap.size w wd) (h : Fram wd w2 B) {v0 : Value} (hv : w.cell? ⟨B, 1, none⟩ = some v0) : Fram w w2 B := fun k t C hk hkB hkv => h k t C (hk.belowS hbw) hkB fun v hv2 => by
  rw [keepB hbw hv] at hv2
  exact hkv v (hv.trans hv2)
theorem Fram.stay {w w2 : World} {B : Nat} (h : Below w.heap.size w w2) : Fram w w2 B := fun k t C hk _ _ => hk.belowS h
end Go.Proofs.YtooogaogbffjfaaDoor.Ext
end
section
set_option linter.unusedVariables false
set_option linter.unusedSimpArgs false
namespace Go.Proofs.YtooogaogbffjfaaDoor.Ext
set_option maxRecDepth 100000
open Go.RowKit Go.Proofs.YtooogaogbffjfaaDoorW.PrintWords Go.Proofs.YtooogaogbffjfaaDoorW.PrintLast Go.Proofs.YtooogaogbffjfaaDoorW.PrintMore Go.Proofs.YtooogaogbffjfaaDoor.PK Go.Proofs.YtooogaogbffjfaaDoor.Bk
attribute [local go_sem] Oper.semAt_some
def okAll (n : Int) : List S27 → List S27 → Bool
  | _, [] => true
  | pre, p :: r => nextB n pre p && okAll n (pre ++ [p]) r
theorem okAll_step (n : Int) (ps : List S27) (k : Nat) (hk : k < ps.length) : okAll n (ps.take k) (ps.drop k) = (nextB n (ps.take k) (rd_T27 ps (k : Int)) && okAll n (ps.take (k + 1)) (ps.drop (k + 1))) := by
  have e : rd_T27 ps (k : Int) = ps[k] := by unfold rd_T27; rw [Int.toNat_natCast, List.getD_eq_getElem?_getD, List.getElem?_eq_getElem hk]; rfl
  rw [List.drop_eq_getElem_cons hk, okAll, e, List.take_add_one, List.getElem?_eq_getElem hk]
  rfl
theorem next_len {n : Int} {l : List S27} {p : S27} (h : nextB n l p = true) : l.length < 200 := by
  unfold nextB at h
  by_cases hl : l.length < 200
  · exact hl
  · rw [decide_eq_false hl, Bool.false_and] at h; cases h
def inB (acc clo : Int) : Bool := decide ((2 ≤ acc ∧ acc ≤ 16) ∧ (0 ≤ clo ∧ clo ≤ 12))
theorem isIn_walk (a b c : Int) (w : World) : Calls Tryd.prog 41 #[.int .i64 a, .int .i64 b, .int .i64 c] w fun e w' => e = .returned (.bool (decide (b ≤ a ∧ a ≤ c))) ∧ Drawn0 w w' := book_isIn.calls a b c _ w (isIn_is a b c)
theorem isIn_walk' (a b c : Int) (r : Bool) (h : decide (b ≤ a ∧ a ≤ c) = r) (w : World) : Calls Tryd.prog 41 #[.int .i64 a, .int .i64 b, .int .i64 c] w fun e w' => e = .returned (.bool r) ∧ Drawn0 w w' := h ▸ isIn_walk a b c w
theorem takes_walk' (ws w : World) (B : Nat) (acc clo : Int) (ps : List S27) (p : S27) (r : Bool) (h : nextB acc ps p = r) (hL : Ledger ws w B acc clo ps) (hps : ps.length ≤ 200) :
    Calls Tryd.prog 51 #[.pointer (some ⟨B, 0, none⟩), .agg #[.int .i64 p.f0, .int .i64 p.f1, .int .i64 p.f2, .int .i64 p.f3, .int .i64 p.f4, .int .i64 p.f5, .int .i64 p.f6]] w fun e w' => e = .returned (.bool r) ∧ Ledger ws w' B acc clo (if r then ps ++ [p] else ps) := h ▸ takes_walk ws w B acc clo ps p hL hps
theorem takes_frame' (ws w : World) (B : Nat) (acc clo : Int) (ps : List S27) (p : S27) (r : Bool) (h : nextB acc ps p = r) (hL : Ledger ws w B acc clo ps) (hps : ps.length ≤ 200) :
    Calls Tryd.prog 51 #[.pointer (some ⟨B, 0, none⟩), .agg #[.int .i64 p.f0, .int .i64 p.f1, .int .i64 p.f2, .int .i64 p.f3, .int .i64 p.f4, .int .i64 p.f5, .int .i64 p.f6]] w fun e w' => e = .returned (.bool r) ∧ Ledger ws w' B acc clo (if r then ps ++ [p] else ps) ∧ Fram w w' B := h ▸ takes_frame ws w B acc clo ps p hL hps
theorem Ledger.lower {w ws w' : World} {B : Nat} {acc clo : Int} {ps : List S27} (h : Ledger ws w' B acc clo ps) (hb : Below w.heap.size w ws) : Ledger w w' B acc clo ps := by
  obtain ⟨h1, h2, v, h3, h4, h5, h6⟩ := h
  exact ⟨Below.trans hb (h1.mono hb.size), Nat.le_trans hb.size h2, v, h3, Kd.R_lower h4 hb.size, h5, h6⟩
theorem backs_nil : backs [] = List.replicate 200 false := by decide +kernel
theorem zero_led (W : World) : Sem.run Tryd.prog (zeroValue 74) W = .ok (.agg (.int .i64 0 :: .slice none 0 0 :: .int .i64 0 :: (List.replicate 200 false).map Value.bool).toArray) W := by
  kernel_rfl
def OpenPost (acc clo : Int) (ps : List S27) (w : World) (e : Ending) (w' : World) : Prop := if okAll acc [] ps = true then ∃ B, e = .returned (.tuple #[.pointer (some ⟨B, 0, none⟩), .bool (inB acc clo)]) ∧ Ledger w w' B acc clo ps else e = .returned (.tuple #[.pointer none, .bool false]) ∧ Below w.heap.size w w'
set_option maxRecDepth 100000 in
set_option maxHeartbeats 2000000 in
theorem open_walk (acc clo : Int) (A : Option Addr) (c : Nat) (ps : List S27) (w : World) (hr : Kd.C k27 w A ps.length ps) (hn : ps.length ≤ 1000000) :
    Calls Tryd.prog 33 #[.agg #[.int .i64 acc, .slice A ps.length c, .int .i64 clo]] w fun e w' => OpenPost acc clo ps w e w' := by
  obtain ⟨n, hnl⟩ : ∃ n, ps.length = n := ⟨_, rfl⟩
  rw [hnl] at hr hn
  rw [hnl]
  have HR := Lib.hid hr
  have HN := Lib.hid hnl
  clear hr hnl
  obtain ⟨Z, hZ⟩ : ∃ Z, (List.replicate 200 false).map Value.bool = Z := ⟨_, rfl⟩
  have hZl : Z.length = 200 := by rw [← hZ]; simp
  have hz := zero_led
  rw [hZ] at hz
  have HZ := Lib.hid hZ
  clear hZ
  go_enter Tryd.func33, Tryd.ntmps33
  go_wp2
  obtain ⟨B, hBd⟩ : ∃ B, w.heap.size + 1 = B := ⟨_, rfl⟩
  have hsz : (w.alloc (.cells #[.int .i64 acc, .slice A n c, .int .i64 clo] 24)).heap.size = B := by rw [← hBd]; simp
  have hbw : Below w.heap.size w (w.alloc (.cells #[.int .i64 acc, .slice A n c, .int .i64 clo] 24)) := (Below.refl _ _).alloc (Nat.le_refl _) _
  have hcell (j : Nat) (v : Value) (h : (#[Value.int .i64 acc, .slice A n c, .int .i64 clo])[j]? = some v) : (w.alloc (.cells #[.int .i64 acc, .slice A n c, .int .i64 clo] 24)).cell? ⟨w.heap.size, j, none⟩ = some v := c_new _ _ _ _ _ _ h rfl
  have b0 := hcell 0 _ rfl
  have b2 := hcell 2 _ rfl
  clear hcell
  rw [hBd]
  generalize w.alloc (.cells #[.int .i64 acc, .slice A n c, .int .i64 clo] 24) = ws at *
  have hL0 : Ledger ws (ws.alloc (.cells (Value.int .i64 acc :: .slice none 0 0 :: .int .i64 clo :: Z).toArray 74)) B acc clo (ps.take 0) := by
    refine ⟨(Below.refl _ _).alloc (Nat.le_refl _) _, by rw [hsz]; omega, .slice none 0 0, ?_, Kd.R_nil _ _ _ _ _, (fun e => by cases e), fun _ => rfl⟩
    have h := Blk.new ws 74 (Value.int .i64 acc :: .slice none 0 0 :: .int .i64 clo :: Z)
    rw [hsz] at h
    unfold Led ledCells
    rw [show backs (ps.take 0) = List.replicate 200 false from backs_nil, HZ.out]
    exact h
  generalize ws.alloc (.cells (Value.int .i64 acc :: .slice none 0 0 :: .int .i64 clo :: Z).toArray 74) = W2 at *
  clear hz hZl HZ
  have HBW := Lib.hid hbw
  have HB0 := Lib.hid b0
  have HB2 := Lib.hid b2
  clear hbw b0 b2 hsz hBd
  go_loopw [17] (fun i wr => ∃ k : Nat, k ≤ n ∧ k ≤ 200 ∧ i = .int .i64 (k : Int) ∧ Hid (Ledger ws wr B acc clo (ps.take k)) ∧ Hid (okAll acc [] ps = okAll acc (ps.take k) (ps.drop k))) (fun i wr => n - (intOf i).toNat)
  case atStart => exact ⟨0, by omega, by omega, rfl, Lib.hid hL0, Lib.hid (by simp)⟩
  case round =>
    obtain ⟨k, hk, hk2, rfl, HL, HOK⟩ := hrel
    by_cases hlt : k < n
    · have hki : (k : Int) < (n : Int) := by omega
      have hbr : Below w.heap.size w wr := Below.trans HBW.out (HL.out.1.mono HBW.out.size)
      obtain ⟨ad, rfl, x0, x1, x2, x3, x4, x5, x6⟩ := at_T27 (Kd.C_below HR.out hbr) (k : Int) (by omega) hki
      rw [Int.toNat_natCast] at x0 x1 x2 x3 x4 x5 x6
      have HP := Lib.hid (rfl : rd_T27 ps (k : Int) = rd_T27 ps (k : Int))
      generalize hp : rd_T27 ps (k : Int) = p at *
      clear HP
      have hlen : (ps.take k).length ≤ 200 := by rw [List.length_take]; omega
      have hst := okAll_step acc ps k (by rw [HN.out]; exact hlt)
      rw [hp] at hst
      cases hnx : nextB acc (ps.take k) p with
      | true =>
        have HNX := Lib.hid hnx
        have HLEN := Lib.hid hlen
        have HST := Lib.hid hst
        clear hnx hlen hst
        go_wp2_with (first | (go_at_call 51; refine (takes_walk' ws _ B acc clo (ps.take k) p true HNX.out (HL.out.below ((Below.refl _ _).alloc (Nat.le_refl _) _)) HLEN.out).mono ?_; rintro e w3 ⟨rfl, hL3⟩) | fail)
        go_roundw
        case rel =>
          have ht : ps.take k ++ [p] = ps.take (k + 1) := by
            have hkl : k < ps.length := by rw [HN.out]; exact hlt
            rw [List.take_add_one, List.getElem?_eq_getElem hkl, ← hp]
            unfold rd_T27
            rw [Int.toNat_natCast, List.getD_eq_getElem?_getD, List.getElem?_eq_getElem hkl]
            rfl
          have hl2 := next_len HNX.out
          rw [List.length_take, HN.out] at hl2
          refine ⟨k + 1, by omega, by omega, by go_num, Lib.hid ?_, Lib.hid ?_⟩
          · rw [← ht]; exact hL3
          · rw [HOK.out, HST.out, HNX.out, Bool.true_and]
        case measure => simp [intOf]; omega
      | false =>
        have HNX := Lib.hid hnx
        have HLEN := Lib.hid hlen
        have HST := Lib.hid hst
        clear hnx hlen hst
        go_wp2_with (first | (go_at_call 51; refine (takes_walk' ws _ B acc clo (ps.take k) p false HNX.out (HL.out.below ((Below.refl _ _).alloc (Nat.le_refl _) _)) HLEN.out).mono ?_; rintro e w3 ⟨rfl, hL3⟩) | fail)
        go_ret2
        unfold OpenPost
        rw [if_neg (by rw [HOK.out, HST.out, HNX.out]; simp)]
        exact ⟨rfl, Below.trans HBW.out (hL3.1.mono HBW.out.size)⟩
    · obtain rfl : k = n := by omega
      have hfull : ps.take k = ps := List.take_of_length_le (by rw [HN.out]; exact Nat.le_refl _)
      have hok : okAll acc [] ps = true := by
        rw [HOK.out, List.drop_of_length_le (by rw [HN.out]; exact Nat.le_refl _)]; rfl
      have hL := HL.out
      rw [hfull] at hL
      have HLL := Lib.hid hL
      have HFIN := Lib.hid hok
      have b0 := keepB hL.1 HB0.out
      have b2 := keepB hL.1 HB2.out
      clear hL hok hfull
      cases ha : decide (2 ≤ acc ∧ acc ≤ 16) with
      | false =>
        have HA := Lib.hid ha
        clear ha
        go_wp2_with (first | (go_at_call 41; refine (isIn_walk' acc 2 16 false HA.out _).mono ?_; rintro e w4 ⟨rfl, hd4⟩) | fail)
        go_ret2
        unfold OpenPost
        rw [if_pos HFIN.out]
        refine ⟨B, ?_, (HLL.out.below hd4.below).lower HBW.out⟩
        rw [show inB acc clo = false by unfold inB; rw [decide_eq_false]; exact fun h => (of_decide_eq_false HA.out) h.1]
        rfl
      | true =>
        cases hcl : decide (0 ≤ clo ∧ clo ≤ 12) with
        | false =>
          have HA := Lib.hid ha
          have HC := Lib.hid hcl
          clear ha hcl
          go_wp2_with (first | (go_at_call 41; (with_reducible refine (isIn_walk' acc 2 16 true HA.out _).mono ?_); rintro e w4 ⟨rfl, hd4⟩; have b2 := keepB hd4.below b2) | (go_at_call 41; (with_reducible refine (isIn_walk' clo 0 12 false HC.out _).mono ?_); rintro e w5 ⟨rfl, hd5⟩) | fail)
          go_ret2
          unfold OpenPost
          rw [if_pos HFIN.out]
          refine ⟨B, ?_, ((HLL.out.below hd4.below).below hd5.below).lower HBW.out⟩
          rw [show inB acc clo = false by unfold inB; rw [decide_eq_false]; exact fun h => (of_decide_eq_false HC.out) h.2]
          rfl
        | true =>
          have HA := Lib.hid ha
          have HC := Lib.hid hcl
          clear ha hcl
          go_wp2_with (first | (go_at_call 41; (with_reducible refine (isIn_walk' acc 2 16 true HA.out _).mono ?_); rintro e w4 ⟨rfl, hd4⟩; have b2 := keepB hd4.below b2) | (go_at_call 41; (with_reducible refine (isIn_walk' clo 0 12 true HC.out _).mono ?_); rintro e w5 ⟨rfl, hd5⟩) | fail)
          go_ret2
          unfold OpenPost
          rw [if_pos HFIN.out]
          refine ⟨B, ?_, ((HLL.out.below hd4.below).below hd5.below).lower HBW.out⟩
          rw [show inB acc clo = true by unfold inB; rw [decide_eq_true]; exact ⟨of_decide_eq_true HA.out, of_decide_eq_true HC.out⟩]
          rfl
end Go.Proofs.YtooogaogbffjfaaDoor.Ext
end
