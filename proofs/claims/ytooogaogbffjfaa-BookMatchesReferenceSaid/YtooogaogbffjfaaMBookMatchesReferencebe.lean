import Derived.Test.YtooogaogbffjfaaMBookMatchesReferencebd
/-
  Texts of this claim, one behind the other: what they prove stands above each.
-/
section
/-
  The law BookMatchesReference, walked by hand.
-/
set_option linter.unusedVariables false
set_option linter.unusedSimpArgs false
namespace Go.Proofs.Ytooogaogbffjfaa.Ext
open Go.RowKit Go.Shelf Go.Proofs.YtooogaogbffjfaaW.PrintWords Go.Proofs.YtooogaogbffjfaaW.PrintLast Go.Proofs.YtooogaogbffjfaaW.PrintMore Go.Proofs.Ytooogaogbffjfaa.PK Go.Proofs.Ytooogaogbffjfaa.Bk Go.Proofs.Ytooogaogbffjfaa.PB Go.Proofs.Ytooogaogbffjfaa.Pure
attribute [local go_sem] Oper.semAt_some max2_int min2_int max_two min_two
set_option maxRecDepth 100000 in
set_option maxHeartbeats 4000000 in
theorem matchLaw_walk (acc0 clo0 : Int) (A0 : Option Addr) (n0 c0 : Nat) (l0 : List S27) (hl0 : l0.length = n0) (a1 : Int) (A2 : Option Addr) (n2 c2 : Nat) (l2 : List S48) (hl2 : l2.length = n2) (p : S27) (a4 a5 a6 a7 : Int) (h4 : I64 a4) (h7 : I64 a7) (h5 : I64 p.f5) (N1 : Nat) (ps1 : List S27) (clo1 : Int) (hm : aircheckref24_Made.f a1 l2 = some ((N1 : Int), ps1, clo1)) (hlen : ps1.length ≤ 48) (w : World) (hr0 : Kd.C k27 w A0 n0 l0) (hc0 : n0 ≤ c0) (hr2 : Kd.C k48 w A2 n2 l2) (hc2 : n2 ≤ c2) :
    Calls Try.prog 3 #[.agg #[.int .i64 acc0, .slice A0 n0 c0, .int .i64 clo0], .int .i64 a1, .slice A2 n2 c2, .agg #[.int .i64 p.f0, .int .i64 p.f1, .int .i64 p.f2, .int .i64 p.f3, .int .i64 p.f4, .int .i64 p.f5, .int .i64 p.f6], .int .i64 a4, .int .i64 a5, .int .i64 a6, .int .i64 a7] w fun e w' => e = .returned (.bool true) ∧ Below w.heap.size w w' := by
  have HM := Lib.hid hm
  have HR0 := Lib.hid hr0
  have HR2 := Lib.hid hr2
  have HLE := Lib.hid hlen
  have H4 := Lib.hid h4
  have H7 := Lib.hid h7
  have H5 := Lib.hid h5
  have HL0 := Lib.hid hl0
  have HL2 := Lib.hid hl2
  clear hm hr0 hr2 hlen h4 h7 h5 hl0 hl2
  obtain ⟨m, hm0⟩ : ∃ m : Nat, (if (8 : Int) < (n0 : Int) then (8 : Int) else (n0 : Int)) = (m : Int) := by
    by_cases h : (8 : Int) < (n0 : Int)
    · exact ⟨8, if_pos h⟩
    · exact ⟨n0, if_neg h⟩
  have hm8 : m ≤ 8 ∧ m ≤ n0 := by split at hm0 <;> omega
  have hms : (n0 : Int) ≤ 9223372036854775807 := by have := Kd.C_max HR0.out; omega
  go_enter Try.func3, Try.ntmps3
  go_upto_region 2 with (first | (go_at_call 7; (with_reducible refine (airchecklaw24_sane.calls true _ rfl).mono ?_); rintro e w2 ⟨rfl, hb2⟩) | fail)
  have hsz : (w.alloc (.cells #[.int .i64 acc0, .slice A0 n0 c0, .int .i64 clo0] 24)).heap.size = w.heap.size + 1 := by simp
  have hB0 : Blk ((w.alloc (.cells #[.int .i64 acc0, .slice A0 n0 c0, .int .i64 clo0] 24)).alloc (.cells #[.int .i64 p.f0, .int .i64 p.f1, .int .i64 p.f2, .int .i64 p.f3, .int .i64 p.f4, .int .i64 p.f5, .int .i64 p.f6] 27)) w.heap.size 24 [.int .i64 acc0, .slice A0 n0 c0, .int .i64 clo0] := (Blk.newA w _ _ _ rfl).alloc _
  have hP0 : Blk ((w.alloc (.cells #[.int .i64 acc0, .slice A0 n0 c0, .int .i64 clo0] 24)).alloc (.cells #[.int .i64 p.f0, .int .i64 p.f1, .int .i64 p.f2, .int .i64 p.f3, .int .i64 p.f4, .int .i64 p.f5, .int .i64 p.f6] 27)) (w.heap.size + 1) 27 (pcells p) := by have h := Blk.new (w.alloc (.cells #[.int .i64 acc0, .slice A0 n0 c0, .int .i64 clo0] 24)) 27 (pcells p); rw [hsz] at h; exact h
  have hb1 : Below w.heap.size w ((w.alloc (.cells #[.int .i64 acc0, .slice A0 n0 c0, .int .i64 clo0] 24)).alloc (.cells #[.int .i64 p.f0, .int .i64 p.f1, .int .i64 p.f2, .int .i64 p.f3, .int .i64 p.f4, .int .i64 p.f5, .int .i64 p.f6] 27)) := ((Below.refl _ _).alloc (Nat.le_refl _) _).alloc (by simp) _
  have HB0 := Lib.hid (hB0.belowS hb2)
  have HP := Lib.hid (hP0.belowS hb2)
  have HBW := Lib.hid (Below.trans hb1 (hb2.mono hb1.size))
  clear hsz hB0 hP0 hb1 hb2
  have x0 := HB0.out.cell (j := 0) rfl
  have x1 := HB0.out.cell (j := 1) rfl
  have x2 := HB0.out.cell (j := 2) rfl
  have f1 := HB0.out.free 1
  have hmc : (m : Int) ≤ (c0 : Int) := by omega
  have hmn : (m : Int) ≤ (n0 : Int) := by omega
  go_upto_region 3 with (fail)
  have hB2 : Blk (w2.setCell ⟨w.heap.size, 1, none⟩ (.slice A0 m c0)) w.heap.size 24 [.int .i64 acc0, .slice A0 m c0, .int .i64 clo0] := HB0.out.set 1 _
  have hP2 := HP.out.set_other ⟨w.heap.size, 1, none⟩ (by show w.heap.size + 1 ≠ w.heap.size; omega) (.slice A0 m c0)
  have hb2 : Below w.heap.size w (w2.setCell ⟨w.heap.size, 1, none⟩ (.slice A0 m c0)) := HBW.out.setCell (p := ⟨w.heap.size, 1, none⟩) (Nat.le_refl _) _
  clear x0 x1 x2 f1 hmc hmn hms hm0 HB0 HP HBW
  generalize w2.setCell ⟨w.heap.size, 1, none⟩ (.slice A0 m c0) = w3 at *
  have HP := Lib.hid hP2
  have HBW := Lib.hid hb2
  have HB0 := Lib.hid hB2
  clear hP2 hb2 hB2 w2
  have x0 := HB0.out.cell (j := 0) rfl
  have x1 := HB0.out.cell (j := 1) rfl
  have x2 := HB0.out.cell (j := 2) rfl
  have hS : w3.drew.cell? ⟨w.heap.size, 0, none⟩ = some (.int .i64 acc0) ∧ w3.drew.cell? ⟨w.heap.size, 1, none⟩ = some (.slice A0 m c0) ∧ w3.drew.cell? ⟨w.heap.size, 2, none⟩ = some (.int .i64 clo0) := ⟨x0, x1, x2⟩
  go_region_held3 (fun w' => w'.cell? ⟨w.heap.size, 0, none⟩ = some (.int .i64 acc0) ∧ w'.cell? ⟨w.heap.size, 1, none⟩ = some (.slice A0 m c0) ∧ w'.cell? ⟨w.heap.size, 2, none⟩ = some (.int .i64 clo0)) (first | (with_reducible exact hS) | (with_reducible exact hk) | (with_reducible exact ⟨keepB ((Below.refl _ _).alloc (Nat.le_refl _) _) hk.1, keepB ((Below.refl _ _).alloc (Nat.le_refl _) _) hk.2.1, keepB ((Below.refl _ _).alloc (Nat.le_refl _) _) hk.2.2⟩) | fail) (first | (go_at_call 8; (refine (made_walk2 a1 A2 n2 c2 l2 HL2.out N1 ps1 clo1 HM.out _ (Kd.C_below HR2.out (below_dN HBW.out _)) hc2).mono ?_); rintro e w4 ⟨A, c, nn, hnn, rfl, hR4, hb4⟩; have hk := And.intro (keepB hb4 x0) (And.intro (keepB hb4 x1) (keepB hb4 x2))) | fail)
  rename_i hHeld_
  clear hHeld_ hk hS x0 x1 x2 HB0
  have hb4n : Below w3.heap.size w3 w4 := Below.trans (below_dN (Below.refl _ _) 1) hb4
  replace hb4 := hb4n
  clear hb4n
  have hba : Below w4.heap.size w4 (w4.alloc (.cells #[.int .i64 acc0, .slice A0 m c0, .int .i64 clo0, .int .i64 (N1 : Int), .slice A nn c, .int .i64 clo1] 24)) := (Below.refl _ _).alloc (Nat.le_refl _) _
  have hb5 : Below w3.heap.size w3 (w4.alloc (.cells #[.int .i64 acc0, .slice A0 m c0, .int .i64 clo0, .int .i64 (N1 : Int), .slice A nn c, .int .i64 clo1] 24)) := Below.trans hb4 (hba.mono hb4.size)
  have hR5 := (Kd.R_reads' hR4).2
  rw [hnn] at hR5
  have hcA := hR5.1
  have HC1 := Lib.hid (Kd.C_below hR5.2 hba)
  have HBW5 := Lib.hid (Below.trans HBW.out (hb5.mono HBW.out.size))
  have HC0 : Hid (Kd.C k27 (w4.alloc (.cells #[.int .i64 acc0, .slice A0 m c0, .int .i64 clo0, .int .i64 (N1 : Int), .slice A nn c, .int .i64 clo1] 24)) A0 m (l0.take m)) := Lib.hid (by
    have h := Kd.C_below HR0.out HBW5.out
    have hln := HL0.out
    subst hln
    have h2 := Kd.C_take h hm8.2
    rwa [List.length_take, Nat.min_eq_left hm8.2] at h2)
  have HP5 := Lib.hid (HP.out.belowS hb5)
  have HA := Lib.hid (Blk.newA w4 24 #[.int .i64 acc0, .slice A0 m c0, .int .i64 clo0, .int .i64 (N1 : Int), .slice A nn c, .int .i64 clo1] [.int .i64 acc0, .slice A0 m c0, .int .i64 clo0, .int .i64 (N1 : Int), .slice A nn c, .int .i64 clo1] rfl)
  have HN1 := Lib.hid hnn
  have HLT : Hid ((l0.take m).length = m) := Lib.hid (by rw [List.length_take, Nat.min_eq_left]; have := HL0.out; omega)
  have HNE : Hid (w.heap.size < w4.heap.size) := Lib.hid (by have := HP.out.lt; have := hb4.size; omega)
  clear hb4 hb5 hba hR4 hR5 hnn HP HBW HR2 HR0 HM
  generalize w4.alloc (.cells #[.int .i64 acc0, .slice A0 m c0, .int .i64 clo0, .int .i64 (N1 : Int), .slice A nn c, .int .i64 clo1] 24) = W at *
  generalize w4.heap.size = gA at *
  clear w4 w3
  obtain ⟨gp, hgp⟩ : ∃ gp, w.heap.size + 1 = gp := ⟨_, rfl⟩
  rw [hgp] at HP5 ⊢
  obtain ⟨adA, hadA⟩ : ∃ ad : Addr, (⟨gA, 0, none⟩ : Addr) = ad := ⟨_, rfl⟩
  rw [hadA]
  have HAD := Lib.hid hadA
  have HGP := Lib.hid hgp
  clear hadA hgp
  go_wp2
  go_loopw [67] (fun v wr => ∃ k : Nat, k ≤ 2 ∧ v = .int .i64 (k : Int) ∧ Below W.heap.size W wr) (fun v wr => 2 - (intOf v).toNat)
  case atStart => exact ⟨0, by omega, rfl, Below.refl _ _⟩
  case round =>
    obtain ⟨k, hk, rfl, hbel⟩ := hrel
    by_cases hlt : k < 2
    · have hki : (k : Int) < 2 := by omega
      obtain ⟨acc, B, nb, cb, clo, ps, e0, e1, e2, HC, HL, hcb, hnb⟩ : ∃ (acc : Int) (B : Option Addr) (nb cb : Nat) (clo : Int) (ps : List S27), wr.cell? (adA.add (k * 3)) = some (.int .i64 acc) ∧ wr.cell? ⟨(adA.add (k * 3)).block, (adA.add (k * 3)).off + 1, none⟩ = some (.slice B nb cb) ∧ wr.cell? ⟨(adA.add (k * 3)).block, (adA.add (k * 3)).off + 2, none⟩ = some (.int .i64 clo) ∧ Hid (Kd.C k27 wr B nb ps) ∧ Hid (ps.length = nb) ∧ nb ≤ cb ∧ nb ≤ 48 := by
        rw [← HAD.out]
        have hA := HA.out.belowS hbel
        rcases (show k = 0 ∨ k = 1 by omega) with rfl | rfl
        · exact ⟨acc0, A0, m, c0, clo0, l0.take m, hA.cell (j := 0) rfl, hA.cell (j := 1) rfl, hA.cell (j := 2) rfl, Lib.hid (Kd.C_below HC0.out hbel), HLT, by omega, by omega⟩
        · exact ⟨(N1 : Int), A, nn, c, clo1, ps1, hA.cell (j := 3) rfl, hA.cell (j := 4) rfl, hA.cell (j := 5) rfl, Lib.hid (Kd.C_below HC1.out hbel), HN1, hcA, by have := HLE.out; have := HN1.out; omega⟩
      have HBEL := Lib.hid hbel
      clear hbel hlt
      go_upto_region 6 with (fail)
      clear e0 e1 e2
      have hba : Below wr.heap.size wr (wr.alloc (.cells #[.int .i64 acc, .slice B nb cb, .int .i64 clo] 24)) := (Below.refl _ _).alloc (Nat.le_refl _) _
      have HB := Lib.hid (Blk.newA wr 24 #[.int .i64 acc, .slice B nb cb, .int .i64 clo] [.int .i64 acc, .slice B nb cb, .int .i64 clo] rfl)
      replace HC := Lib.hid (Kd.C_below HC.out hba)
      have HLOW := Lib.hid (Below.trans HBEL.out (hba.mono HBEL.out.size))
      have HP := Lib.hid (HP5.out.belowS HLOW.out)
      clear hba HBEL
      generalize wr.alloc (.cells #[.int .i64 acc, .slice B nb cb, .int .i64 clo] 24) = v0 at *
      generalize wr.heap.size = gb at *
      clear wr
      obtain ⟨rP, hrP⟩ : ∃ r, postF acc ps clo p = r := ⟨_, rfl⟩
      have hlP := postF_len _ _ _ _ _ hrP
      obtain ⟨r1, rl, r3, r4, r5⟩ := rP
      have HRP := Lib.hid hrP
      clear hrP
      have hlP2 : rl.length ≤ 49 := by have := HL.out; dsimp only at hlP; omega
      clear hlP
      have b0 := HB.out.cell (j := 0) rfl
      have b1 := HB.out.cell (j := 1) rfl
      have b2 := HB.out.cell (j := 2) rfl
      have p0 := HP.out.cell (j := 0) rfl
      have p1 := HP.out.cell (j := 1) rfl
      have p2 := HP.out.cell (j := 2) rfl
      have p3 := HP.out.cell (j := 3) rfl
      have p4 := HP.out.cell (j := 4) rfl
      have p5 := HP.out.cell (j := 5) rfl
      have p6 := HP.out.cell (j := 6) rfl
      have hd := bPost acc clo B nb cb ps HL.out p (r1, rl, r3, r4, r5) HRP.out v0 HC.out hcb (by omega)
      dsimp only at hd
      have HD := Lib.hid hd
      clear hd
      go_upto_region 7 with (first | (go_at_call 9; (with_reducible refine HD.out.mono ?_); rintro e x1 ⟨Aq, cq, nq, hnq, hcq, rfl, hR, hb⟩) | fail)
      have hb1 : Below v0.heap.size v0 (x1.alloc (.cells #[.int .i64 r1, .slice Aq nq cq, .int .i64 r3] 24)) := hb.alloc hb.size _
      have Hq := Lib.hid (Blk.newA x1 24 #[.int .i64 r1, .slice Aq nq cq, .int .i64 r3] [.int .i64 r1, .slice Aq nq cq, .int .i64 r3] rfl)
      have Cq := Lib.hid (show Kd.C k27 (x1.alloc (.cells #[.int .i64 r1, .slice Aq nq cq, .int .i64 r3] 24)) Aq nq rl from Kd.C_alloc (by have h := (Kd.R_reads' hR).2.2; rwa [hnq] at h) _)
      have Nq := Lib.hid hnq
      replace HB := Lib.hid (HB.out.belowS hb1)
      replace HP := Lib.hid (HP.out.belowS hb1)
      replace HC := Lib.hid (Kd.C_below HC.out hb1)
      replace HLOW := Lib.hid (Below.trans HLOW.out (hb1.mono HLOW.out.size))
      clear hb hb1 hR hnq HD b0 b1 b2 p0 p1 p2 p3 p4 p5 p6
      generalize x1.alloc (.cells #[.int .i64 r1, .slice Aq nq cq, .int .i64 r3] 24) = v1 at *
      generalize x1.heap.size = gq at *
      clear x1 v0
      have b0 := HB.out.cell (j := 0) rfl
      have b1 := HB.out.cell (j := 1) rfl
      have b2 := HB.out.cell (j := 2) rfl
      have p0 := HP.out.cell (j := 0) rfl
      have p1 := HP.out.cell (j := 1) rfl
      have p2 := HP.out.cell (j := 2) rfl
      have p3 := HP.out.cell (j := 3) rfl
      have p4 := HP.out.cell (j := 4) rfl
      have p5 := HP.out.cell (j := 5) rfl
      have p6 := HP.out.cell (j := 6) rfl
      have hd := rPost acc clo B nb cb ps HL.out p (r1, rl, r3, r4, r5) HRP.out v1 HC.out hcb (by omega)
      dsimp only at hd
      have HD := Lib.hid hd
      clear hd
      go_upto_region 8 with (first | (go_at_call 10; (with_reducible refine HD.out.mono ?_); rintro e x2 ⟨As, cs, ns, hns, hcs, rfl, hR, hb⟩) | fail)
      obtain rfl := Nq.out.symm.trans hns
      have hb1 : Below v1.heap.size v1 (x2.alloc (.cells #[.int .i64 r1, .slice As nq cs, .int .i64 r3] 24)) := hb.alloc hb.size _
      have Hs := Lib.hid (Blk.newA x2 24 #[.int .i64 r1, .slice As nq cs, .int .i64 r3] [.int .i64 r1, .slice As nq cs, .int .i64 r3] rfl)
      have Cs := Lib.hid (show Kd.C k27 (x2.alloc (.cells #[.int .i64 r1, .slice As nq cs, .int .i64 r3] 24)) As nq rl from Kd.C_alloc (by have h := (Kd.R_reads' hR).2.2; rwa [hns] at h) _)
      replace HB := Lib.hid (HB.out.belowS hb1)
      replace HP := Lib.hid (HP.out.belowS hb1)
      replace HC := Lib.hid (Kd.C_below HC.out hb1)
      replace HLOW := Lib.hid (Below.trans HLOW.out (hb1.mono HLOW.out.size))
      replace Hq := Lib.hid (Hq.out.belowS hb1)
      replace Cq := Lib.hid (Kd.C_below Cq.out hb1)
      clear hb hb1 hR hns HD b0 b1 b2 p0 p1 p2 p3 p4 p5 p6
      generalize x2.alloc (.cells #[.int .i64 r1, .slice As nq cs, .int .i64 r3] 24) = v2 at *
      generalize x2.heap.size = gs at *
      clear x2 v1
      obtain ⟨vb, hvb⟩ : ∃ b, validB acc ps clo = b := ⟨_, rfl⟩
      have HV1 : Hid (∀ X, Below v2.heap.size v2 X → Calls Try.prog 11 #[.agg #[.int .i64 acc, .slice B nb cb, .int .i64 clo]] X fun e w' => e = .returned (.bool vb) ∧ Below v2.heap.size v2 w') := Lib.hid fun X hX => (bValid_walk acc clo B nb cb ps HL.out vb hvb X (Kd.C_below HC.out hX) hcb (by omega)).mono fun e w' ⟨he, hb⟩ => ⟨he, Below.trans hX (hb.mono hX.size)⟩
      have HV2 : Hid (∀ X, Below v2.heap.size v2 X → Calls Try.prog 12 #[.agg #[.int .i64 acc, .slice B nb cb, .int .i64 clo]] X fun e w' => e = .returned (.bool vb) ∧ Below v2.heap.size v2 w') := Lib.hid fun X hX => (rValidW acc clo B nb cb ps HL.out vb hvb X (Kd.C_below HC.out hX) hcb (by omega)).mono fun e w' ⟨he, hb⟩ => ⟨he, Below.trans hX (hb.mono hX.size)⟩
      have HS : Hid (∀ X, Below v2.heap.size v2 X → Calls Try.prog 13 #[.agg #[.int .i64 r1, .slice Aq nq cq, .int .i64 r3], .agg #[.int .i64 r1, .slice As nq cs, .int .i64 r3]] X fun e w' => e = .returned (.bool true) ∧ Below v2.heap.size v2 w') := Lib.hid fun X hX => (rSame_walk r1 r3 nq (by have := Nq.out; omega) Aq As cq cs rl Nq.out X (Kd.C_below Cq.out hX) hcq (Kd.C_below Cs.out hX) hcs).mono fun e w' ⟨he, hb⟩ => ⟨he, Below.trans hX (hb.mono hX.size)⟩
      have b0 := HB.out.cell (j := 0) rfl
      have b1 := HB.out.cell (j := 1) rfl
      have b2 := HB.out.cell (j := 2) rfl
      have q0 := Hq.out.cell (j := 0) rfl
      have q1 := Hq.out.cell (j := 1) rfl
      have q2 := Hq.out.cell (j := 2) rfl
      have s0 := Hs.out.cell (j := 0) rfl
      have s1 := Hs.out.cell (j := 1) rfl
      have s2 := Hs.out.cell (j := 2) rfl
      clear hvb
      have hS : v2.drew.cell? ⟨gb, 0, none⟩ = some (.int .i64 acc) ∧ v2.drew.cell? ⟨gb, 1, none⟩ = some (.slice B nb cb) ∧ v2.drew.cell? ⟨gb, 2, none⟩ = some (.int .i64 clo) ∧ v2.drew.cell? ⟨gq, 0, none⟩ = some (.int .i64 r1) ∧ v2.drew.cell? ⟨gq, 1, none⟩ = some (.slice Aq nq cq) ∧ v2.drew.cell? ⟨gq, 2, none⟩ = some (.int .i64 r3) ∧ v2.drew.cell? ⟨gs, 0, none⟩ = some (.int .i64 r1) ∧ v2.drew.cell? ⟨gs, 1, none⟩ = some (.slice As nq cs) ∧ v2.drew.cell? ⟨gs, 2, none⟩ = some (.int .i64 r3) := ⟨b0, b1, b2, q0, q1, q2, s0, s1, s2⟩
      apply wp_mid (M := fun w' => Below v2.heap.size v2 w')
      · go_region_held3 (fun w' => w'.cell? ⟨gb, 0, none⟩ = some (.int .i64 acc) ∧ w'.cell? ⟨gb, 1, none⟩ = some (.slice B nb cb) ∧ w'.cell? ⟨gb, 2, none⟩ = some (.int .i64 clo) ∧ w'.cell? ⟨gq, 0, none⟩ = some (.int .i64 r1) ∧ w'.cell? ⟨gq, 1, none⟩ = some (.slice Aq nq cq) ∧ w'.cell? ⟨gq, 2, none⟩ = some (.int .i64 r3) ∧ w'.cell? ⟨gs, 0, none⟩ = some (.int .i64 r1) ∧ w'.cell? ⟨gs, 1, none⟩ = some (.slice As nq cs) ∧ w'.cell? ⟨gs, 2, none⟩ = some (.int .i64 r3)) (first | (with_reducible exact hS) | (with_reducible exact hk) | fail) (first | (go_at_call 11; (with_reducible refine (HV1.out _ ?_).mono ?_); (first | exact below_dN (Below.refl _ _) _ | exact below_drew1 (Below.refl _ _) | exact hbc | exact below_dN hbc _ | exact below_drew1 hbc | fail); rintro e w5 ⟨rfl, hbc⟩; have hk : w5.cell? ⟨gb, 0, none⟩ = some (.int .i64 acc) ∧ w5.cell? ⟨gb, 1, none⟩ = some (.slice B nb cb) ∧ w5.cell? ⟨gb, 2, none⟩ = some (.int .i64 clo) ∧ w5.cell? ⟨gq, 0, none⟩ = some (.int .i64 r1) ∧ w5.cell? ⟨gq, 1, none⟩ = some (.slice Aq nq cq) ∧ w5.cell? ⟨gq, 2, none⟩ = some (.int .i64 r3) ∧ w5.cell? ⟨gs, 0, none⟩ = some (.int .i64 r1) ∧ w5.cell? ⟨gs, 1, none⟩ = some (.slice As nq cs) ∧ w5.cell? ⟨gs, 2, none⟩ = some (.int .i64 r3) := ⟨keepB hbc b0, keepB hbc b1, keepB hbc b2, keepB hbc q0, keepB hbc q1, keepB hbc q2, keepB hbc s0, keepB hbc s1, keepB hbc s2⟩) | (go_at_call 12; (with_reducible refine (HV2.out _ ?_).mono ?_); (first | exact below_dN (Below.refl _ _) _ | exact below_drew1 (Below.refl _ _) | exact hbc | exact below_dN hbc _ | exact below_drew1 hbc | fail); rintro e w5 ⟨rfl, hbc⟩; have hk : w5.cell? ⟨gb, 0, none⟩ = some (.int .i64 acc) ∧ w5.cell? ⟨gb, 1, none⟩ = some (.slice B nb cb) ∧ w5.cell? ⟨gb, 2, none⟩ = some (.int .i64 clo) ∧ w5.cell? ⟨gq, 0, none⟩ = some (.int .i64 r1) ∧ w5.cell? ⟨gq, 1, none⟩ = some (.slice Aq nq cq) ∧ w5.cell? ⟨gq, 2, none⟩ = some (.int .i64 r3) ∧ w5.cell? ⟨gs, 0, none⟩ = some (.int .i64 r1) ∧ w5.cell? ⟨gs, 1, none⟩ = some (.slice As nq cs) ∧ w5.cell? ⟨gs, 2, none⟩ = some (.int .i64 r3) := ⟨keepB hbc b0, keepB hbc b1, keepB hbc b2, keepB hbc q0, keepB hbc q1, keepB hbc q2, keepB hbc s0, keepB hbc s1, keepB hbc s2⟩) | (go_at_call 13; (with_reducible refine (HS.out _ ?_).mono ?_); (first | exact below_dN (Below.refl _ _) _ | exact below_drew1 (Below.refl _ _) | exact hbc | exact below_dN hbc _ | exact below_drew1 hbc | fail); rintro e w5 ⟨rfl, hbc⟩; have hk : w5.cell? ⟨gb, 0, none⟩ = some (.int .i64 acc) ∧ w5.cell? ⟨gb, 1, none⟩ = some (.slice B nb cb) ∧ w5.cell? ⟨gb, 2, none⟩ = some (.int .i64 clo) ∧ w5.cell? ⟨gq, 0, none⟩ = some (.int .i64 r1) ∧ w5.cell? ⟨gq, 1, none⟩ = some (.slice Aq nq cq) ∧ w5.cell? ⟨gq, 2, none⟩ = some (.int .i64 r3) ∧ w5.cell? ⟨gs, 0, none⟩ = some (.int .i64 r1) ∧ w5.cell? ⟨gs, 1, none⟩ = some (.slice As nq cs) ∧ w5.cell? ⟨gs, 2, none⟩ = some (.int .i64 r3) := ⟨keepB hbc b0, keepB hbc b1, keepB hbc b2, keepB hbc q0, keepB hbc q1, keepB hbc q2, keepB hbc s0, keepB hbc s1, keepB hbc s2⟩) | fail)
        all_goals exact ⟨rfl, rfl, by first | exact hbc | exact below_dN hbc _ | exact below_drew1 hbc⟩
      rintro v3 hb1
      replace HB := Lib.hid (HB.out.belowS hb1)
      replace HP := Lib.hid (HP.out.belowS hb1)
      replace HC := Lib.hid (Kd.C_below HC.out hb1)
      replace HLOW := Lib.hid (Below.trans HLOW.out (hb1.mono HLOW.out.size))
      replace Hq := Lib.hid (Hq.out.belowS hb1)
      replace Cq := Lib.hid (Kd.C_below Cq.out hb1)
      replace Hs := Lib.hid (Hs.out.belowS hb1)
      replace Cs := Lib.hid (Kd.C_below Cs.out hb1)
      clear hS hb1 b0 b1 b2 q0 q1 q2 s0 s1 s2 HV1 HV2 HS
      clear v2
      clear Hq Cq Hs Cs
      clear Nq hcq hcs HRP hlP2
      obtain ⟨m1, hm1⟩ : ∃ m1 : Int, (nb : Int) + 1 = m1 := ⟨_, rfl⟩
      have hm1p : 0 < m1 := by omega
      have hwm : IntKind.i64.wrap ((nb : Int) + 1) = m1 := by rw [IntWalk.i64_in _ (by omega), hm1]
      obtain ⟨qi, hqi⟩ : ∃ q, pk a4 m1 = q := ⟨_, rfl⟩
      have HQI := Lib.hid hqi
      clear hqi hm1
      have b0 := HB.out.cell (j := 0) rfl
      have b1 := HB.out.cell (j := 1) rfl
      have b2 := HB.out.cell (j := 2) rfl
      go_wp2_with (first | (go_at_call 14; (with_reducible refine (lpick_is a4 m1 H4.out hm1p qi HQI.out _).mono ?_); rintro e w5 ⟨rfl, hw5⟩; obtain rfl := hw5.symm; clear hw5) | fail)
      clear b0 b1 b2 hm1p hwm
      have hb1 : Below v3.heap.size v3 (v3.alloc (.cells #[.int .i64 a4, .int .i64 qi] 3)) := ((Below.refl _ _).alloc (Nat.le_refl _) _)
      have HI4 := Lib.hid (Blk.newA v3 3 #[.int .i64 a4, .int .i64 qi] [.int .i64 a4, .int .i64 qi] rfl)
      replace HB := Lib.hid (HB.out.belowS hb1)
      replace HP := Lib.hid (HP.out.belowS hb1)
      replace HC := Lib.hid (Kd.C_below HC.out hb1)
      replace HLOW := Lib.hid (Below.trans HLOW.out (hb1.mono HLOW.out.size))
      clear hb1
      generalize (v3.alloc (.cells #[.int .i64 a4, .int .i64 qi] 3)) = u4 at *
      generalize v3.heap.size = gI4 at *
      clear v3
      obtain ⟨adI4, hadI⟩ : ∃ ad : Addr, (⟨gI4, 0, none⟩ : Addr) = ad := ⟨_, rfl⟩
      rw [hadI]
      have HAI4 := Lib.hid hadI
      clear hadI
      go_loopw [115] (fun v wr => ∃ k : Nat, k ≤ 2 ∧ v = .int .i64 (k : Int) ∧ Below u4.heap.size u4 wr) (fun v wr => 2 - (intOf v).toNat)
      case atStart => exact ⟨0, by omega, rfl, Below.refl _ _⟩
      case round =>
        obtain ⟨j4, hk, rfl, hbel⟩ := hrel
        by_cases hlt : j4 < 2
        · have hki : (j4 : Int) < 2 := by omega
          obtain ⟨ii, e0⟩ : ∃ ii : Int, wr.cell? (adI4.add j4) = some (.int .i64 ii) := by
            rw [← HAI4.out]
            have hA := HI4.out.belowS hbel
            rcases (show j4 = 0 ∨ j4 = 1 by omega) with rfl | rfl
            · exact ⟨_, hA.cell (j := 0) rfl⟩
            · exact ⟨_, hA.cell (j := 1) rfl⟩
          have HLU4 := Lib.hid hbel
          replace HB := Lib.hid (HB.out.belowS hbel)
          replace HP := Lib.hid (HP.out.belowS hbel)
          replace HC := Lib.hid (Kd.C_below HC.out hbel)
          replace HLOW := Lib.hid (Below.trans HLOW.out (hbel.mono HLOW.out.size))
          clear hbel
          obtain ⟨rD, hrD⟩ : ∃ r, dispF acc ps clo ii a5 a6 = r := ⟨_, rfl⟩
          have hlP := dispF_len _ _ _ _ _ _ _ hrD
          obtain ⟨r1, rl, r3, r4⟩ := rD
          have HRP := Lib.hid hrD
          clear hrD
          have hlP2 : rl.length ≤ 50 := by have := HL.out; dsimp only at hlP; omega
          clear hlP
          have b0 := HB.out.cell (j := 0) rfl
          have b1 := HB.out.cell (j := 1) rfl
          have b2 := HB.out.cell (j := 2) rfl
          have hd := bDisp acc clo B nb cb ps HL.out ii a5 a6 (r1, rl, r3, r4) HRP.out wr HC.out hcb (by omega)
          dsimp only at hd
          have HD := Lib.hid hd
          clear hd
          go_upto_region 14 with (first | (go_at_call 15; (with_reducible refine HD.out.mono ?_); rintro e x5 ⟨Aq, cq, nq, hnq, hcq, rfl, hR, hb⟩) | fail)
          have hb1 : Below wr.heap.size wr (x5.alloc (.cells #[.int .i64 r1, .slice Aq nq cq, .int .i64 r3] 24)) := hb.alloc hb.size _
          have Hq := Lib.hid (Blk.newA x5 24 #[.int .i64 r1, .slice Aq nq cq, .int .i64 r3] [.int .i64 r1, .slice Aq nq cq, .int .i64 r3] rfl)
          have Cq := Lib.hid (show Kd.C k27 (x5.alloc (.cells #[.int .i64 r1, .slice Aq nq cq, .int .i64 r3] 24)) Aq nq rl from Kd.C_alloc (by have h := (Kd.R_reads' hR).2.2; rwa [hnq] at h) _)
          have Nq := Lib.hid hnq
          replace HB := Lib.hid (HB.out.belowS hb1)
          replace HP := Lib.hid (HP.out.belowS hb1)
          replace HC := Lib.hid (Kd.C_below HC.out hb1)
          replace HLOW := Lib.hid (Below.trans HLOW.out (hb1.mono HLOW.out.size))
          replace HLU4 := Lib.hid (Below.trans HLU4.out (hb1.mono HLU4.out.size))
          clear hb hb1 hR hnq HD b0 b1 b2 e0
          generalize x5.alloc (.cells #[.int .i64 r1, .slice Aq nq cq, .int .i64 r3] 24) = v5 at *
          generalize x5.heap.size = gq at *
          clear x5 wr
          have b0 := HB.out.cell (j := 0) rfl
          have b1 := HB.out.cell (j := 1) rfl
          have b2 := HB.out.cell (j := 2) rfl
          have hd := rDisp acc clo B nb cb ps HL.out ii a5 a6 (r1, rl, r3, r4) HRP.out v5 HC.out hcb (by omega)
          dsimp only at hd
          have HD := Lib.hid hd
          clear hd
          go_upto_region 15 with (first | (go_at_call 16; (with_reducible refine HD.out.mono ?_); rintro e x6 ⟨As, cs, ns, hns, hcs, rfl, hR, hb⟩) | fail)
          obtain rfl := Nq.out.symm.trans hns
          have hb1 : Below v5.heap.size v5 (x6.alloc (.cells #[.int .i64 r1, .slice As nq cs, .int .i64 r3] 24)) := hb.alloc hb.size _
          have Hs := Lib.hid (Blk.newA x6 24 #[.int .i64 r1, .slice As nq cs, .int .i64 r3] [.int .i64 r1, .slice As nq cs, .int .i64 r3] rfl)
          have Cs := Lib.hid (show Kd.C k27 (x6.alloc (.cells #[.int .i64 r1, .slice As nq cs, .int .i64 r3] 24)) As nq rl from Kd.C_alloc (by have h := (Kd.R_reads' hR).2.2; rwa [hns] at h) _)
          replace HB := Lib.hid (HB.out.belowS hb1)
          replace HP := Lib.hid (HP.out.belowS hb1)
          replace HC := Lib.hid (Kd.C_below HC.out hb1)
          replace HLOW := Lib.hid (Below.trans HLOW.out (hb1.mono HLOW.out.size))
          replace HLU4 := Lib.hid (Below.trans HLU4.out (hb1.mono HLU4.out.size))
          replace Hq := Lib.hid (Hq.out.belowS hb1)
          replace Cq := Lib.hid (Kd.C_below Cq.out hb1)
          clear hb hb1 hR hns HD b0 b1 b2
          generalize x6.alloc (.cells #[.int .i64 r1, .slice As nq cs, .int .i64 r3] 24) = v6 at *
          generalize x6.heap.size = gs at *
          clear x6 v5
          have q0 := Hq.out.cell (j := 0) rfl
          have q1 := Hq.out.cell (j := 1) rfl
          have q2 := Hq.out.cell (j := 2) rfl
          have s0 := Hs.out.cell (j := 0) rfl
          have s1 := Hs.out.cell (j := 1) rfl
          have s2 := Hs.out.cell (j := 2) rfl
          have hd := rSame_walk r1 r3 nq (by have := Nq.out; omega) Aq As cq cs rl Nq.out v6 Cq.out hcq Cs.out hcs
          have HD := Lib.hid hd
          clear hd
          go_wp2_with (first | (go_at_call 13; (with_reducible refine HD.out.mono ?_); rintro e v7 ⟨rfl, hb1⟩) | fail)
          replace HB := Lib.hid (HB.out.belowS hb1)
          replace HP := Lib.hid (HP.out.belowS hb1)
          replace HC := Lib.hid (Kd.C_below HC.out hb1)
          replace HLOW := Lib.hid (Below.trans HLOW.out (hb1.mono HLOW.out.size))
          replace HLU4 := Lib.hid (Below.trans HLU4.out (hb1.mono HLU4.out.size))
          replace Hq := Lib.hid (Hq.out.belowS hb1)
          replace Cq := Lib.hid (Kd.C_below Cq.out hb1)
          replace Hs := Lib.hid (Hs.out.belowS hb1)
          replace Cs := Lib.hid (Kd.C_below Cs.out hb1)
          go_roundw
          case rel => exact ⟨j4 + 1, by omega, by go_num, HLU4.out⟩
          case measure => simp [intOf]; omega
        · have hke : j4 = 2 := by omega
          subst hke
          replace HB := Lib.hid (HB.out.belowS hbel)
          replace HP := Lib.hid (HP.out.belowS hbel)
          replace HC := Lib.hid (Kd.C_below HC.out hbel)
          replace HLOW := Lib.hid (Below.trans HLOW.out (hbel.mono HLOW.out.size))
          clear hbel hk hlt HI4
          obtain ⟨v8, rfl⟩ : ∃ x : World, x = wr := ⟨_, rfl⟩
          clear HAI4
          have hnl : ¬ ((2 : Nat) : Int) < 2 := by omega
          go_wp2
          clear hnl
          obtain ⟨qm, hqm⟩ : ∃ q, pk a7 12 = q := ⟨_, rfl⟩
          have HQM := Lib.hid hqm
          clear hqm
          have b2 := HB.out.cell (j := 2) rfl
          have hS : v8.drew.cell? ⟨gb, 2, none⟩ = some (.int .i64 clo) := b2
          go_region_held3 (fun w' => w'.cell? ⟨gb, 2, none⟩ = some (.int .i64 clo)) (first | (with_reducible exact hS) | (with_reducible exact keepB ((Below.refl _ _).alloc (Nat.le_refl _) _) hS) | fail) (first | (go_at_call 14; (with_reducible refine (lpick_is a7 12 H7.out (by omega) qm HQM.out _).mono ?_); rintro e w5 ⟨rfl, hw5⟩; obtain rfl := hw5.symm; clear hw5) | fail)
          rename_i hHeld_
          clear hHeld_ hS b2
          have hb1 : Below v8.heap.size v8 (v8.alloc (.cells #[.int .i64 a7, .int .i64 qm, .int .i64 clo] 3)).drew := below_drew1 ((Below.refl _ _).alloc (Nat.le_refl _) _)
          have HI9 := Lib.hid ((Blk.newA v8 3 #[.int .i64 a7, .int .i64 qm, .int .i64 clo] [.int .i64 a7, .int .i64 qm, .int .i64 clo] rfl).drew)
          replace HB := Lib.hid (HB.out.belowS hb1)
          replace HP := Lib.hid (HP.out.belowS hb1)
          replace HC := Lib.hid (Kd.C_below HC.out hb1)
          replace HLOW := Lib.hid (Below.trans HLOW.out (hb1.mono HLOW.out.size))
          clear hb1
          generalize (v8.alloc (.cells #[.int .i64 a7, .int .i64 qm, .int .i64 clo] 3)).drew = u9 at *
          generalize v8.heap.size = gI9 at *
          clear v8
          obtain ⟨adI9, hadI⟩ : ∃ ad : Addr, (⟨gI9, 0, none⟩ : Addr) = ad := ⟨_, rfl⟩
          rw [hadI]
          have HAI9 := Lib.hid hadI
          clear hadI
          go_wp2
          go_loopw [152] (fun v wr => ∃ k : Nat, k ≤ 3 ∧ v = .int .i64 (k : Int) ∧ Below u9.heap.size u9 wr) (fun v wr => 3 - (intOf v).toNat)
          case atStart => exact ⟨0, by omega, rfl, Below.refl _ _⟩
          case round =>
            obtain ⟨j9, hk, rfl, hbel⟩ := hrel
            by_cases hlt : j9 < 3
            · have hki : (j9 : Int) < 3 := by omega
              obtain ⟨ii, e0⟩ : ∃ ii : Int, wr.cell? (adI9.add j9) = some (.int .i64 ii) := by
                rw [← HAI9.out]
                have hA := HI9.out.belowS hbel
                rcases (show j9 = 0 ∨ j9 = 1 ∨ j9 = 2 by omega) with rfl | rfl | rfl
                · exact ⟨_, hA.cell (j := 0) rfl⟩
                · exact ⟨_, hA.cell (j := 1) rfl⟩
                · exact ⟨_, hA.cell (j := 2) rfl⟩
              have HLU9 := Lib.hid hbel
              replace HB := Lib.hid (HB.out.belowS hbel)
              replace HP := Lib.hid (HP.out.belowS hbel)
              replace HC := Lib.hid (Kd.C_below HC.out hbel)
              replace HLOW := Lib.hid (Below.trans HLOW.out (hbel.mono HLOW.out.size))
              clear hbel
              obtain ⟨rD, hrD⟩ : ∃ r, closeF acc ps clo ii = r := ⟨_, rfl⟩
              have hlP := closeF_len _ _ _ _ _ hrD
              obtain ⟨r1, rl, r3, r4⟩ := rD
              have HRP := Lib.hid hrD
              clear hrD
              have hlP2 : rl.length ≤ 50 := by have := HL.out; dsimp only at hlP; omega
              clear hlP
              obtain ⟨rS, hrS⟩ : ∃ r, stmtF acc ps clo ii = r := ⟨_, rfl⟩
              have hlS := stmtF_len _ _ _ _ _ hrS
              obtain ⟨xl, xe⟩ := rS
              have HRS := Lib.hid hrS
              dsimp only at hlS
              clear hrS
              obtain ⟨rB, hrB⟩ : ∃ r, balF acc ps clo a4 ii = r := ⟨_, rfl⟩
              obtain ⟨yb, ye⟩ := rB
              have HRB := Lib.hid hrB
              clear hrB
              have b0 := HB.out.cell (j := 0) rfl
              have b1 := HB.out.cell (j := 1) rfl
              have b2 := HB.out.cell (j := 2) rfl
              have hd := bClose acc clo B nb cb ps HL.out ii (r1, rl, r3, r4) HRP.out wr HC.out hcb (by omega)
              dsimp only at hd
              have HD := Lib.hid hd
              clear hd
              go_upto_region 22 with (first | (go_at_call 17; (with_reducible refine HD.out.mono ?_); rintro e x10 ⟨Aq, cq, nq, hnq, hcq, rfl, hR, hb⟩) | fail)
              have hb1 : Below wr.heap.size wr (x10.alloc (.cells #[.int .i64 r1, .slice Aq nq cq, .int .i64 r3] 24)) := hb.alloc hb.size _
              have Hq := Lib.hid (Blk.newA x10 24 #[.int .i64 r1, .slice Aq nq cq, .int .i64 r3] [.int .i64 r1, .slice Aq nq cq, .int .i64 r3] rfl)
              have Cq := Lib.hid (show Kd.C k27 (x10.alloc (.cells #[.int .i64 r1, .slice Aq nq cq, .int .i64 r3] 24)) Aq nq rl from Kd.C_alloc (by have h := (Kd.R_reads' hR).2.2; rwa [hnq] at h) _)
              have Nq := Lib.hid hnq
              replace HB := Lib.hid (HB.out.belowS hb1)
              replace HP := Lib.hid (HP.out.belowS hb1)
              replace HC := Lib.hid (Kd.C_below HC.out hb1)
              replace HLOW := Lib.hid (Below.trans HLOW.out (hb1.mono HLOW.out.size))
              replace HLU9 := Lib.hid (Below.trans HLU9.out (hb1.mono HLU9.out.size))
              clear hb hb1 hR hnq HD b0 b1 b2 e0
              generalize x10.alloc (.cells #[.int .i64 r1, .slice Aq nq cq, .int .i64 r3] 24) = v10 at *
              generalize x10.heap.size = gq at *
              clear x10 wr
              have b0 := HB.out.cell (j := 0) rfl
              have b1 := HB.out.cell (j := 1) rfl
              have b2 := HB.out.cell (j := 2) rfl
              have hd := rClose acc clo B nb cb ps HL.out ii (r1, rl, r3, r4) HRP.out v10 HC.out hcb (by omega)
              dsimp only at hd
              have HD := Lib.hid hd
              clear hd
              go_upto_region 23 with (first | (go_at_call 18; (with_reducible refine HD.out.mono ?_); rintro e x11 ⟨As, cs, ns, hns, hcs, rfl, hR, hb⟩) | fail)
              obtain rfl := Nq.out.symm.trans hns
              have hb1 : Below v10.heap.size v10 (x11.alloc (.cells #[.int .i64 r1, .slice As nq cs, .int .i64 r3] 24)) := hb.alloc hb.size _
              have Hs := Lib.hid (Blk.newA x11 24 #[.int .i64 r1, .slice As nq cs, .int .i64 r3] [.int .i64 r1, .slice As nq cs, .int .i64 r3] rfl)
              have Cs := Lib.hid (show Kd.C k27 (x11.alloc (.cells #[.int .i64 r1, .slice As nq cs, .int .i64 r3] 24)) As nq rl from Kd.C_alloc (by have h := (Kd.R_reads' hR).2.2; rwa [hns] at h) _)
              replace HB := Lib.hid (HB.out.belowS hb1)
              replace HP := Lib.hid (HP.out.belowS hb1)
              replace HC := Lib.hid (Kd.C_below HC.out hb1)
              replace HLOW := Lib.hid (Below.trans HLOW.out (hb1.mono HLOW.out.size))
              replace HLU9 := Lib.hid (Below.trans HLU9.out (hb1.mono HLU9.out.size))
              replace Hq := Lib.hid (Hq.out.belowS hb1)
              replace Cq := Lib.hid (Kd.C_below Cq.out hb1)
              clear hb hb1 hR hns HD b0 b1 b2
              generalize x11.alloc (.cells #[.int .i64 r1, .slice As nq cs, .int .i64 r3] 24) = v11 at *
              generalize x11.heap.size = gs at *
              clear x11 v10
              have b0 := HB.out.cell (j := 0) rfl
              have b1 := HB.out.cell (j := 1) rfl
              have b2 := HB.out.cell (j := 2) rfl
              have hd := bStmt acc clo B nb cb ps HL.out ii (xl, xe) HRS.out v11 HC.out hcb (by omega)
              dsimp only at hd
              have HD := Lib.hid hd
              clear hd
              go_upto_region 24 with (first | (go_at_call 19; (with_reducible refine HD.out.mono ?_); rintro e v12 ⟨Ax, cx, nx, hnx, hcx, rfl, hR, hb1⟩) | fail)
              have Cx := Lib.hid (Kd.R_reads' hR).2.2
              have Nx := Lib.hid hnx
              replace HB := Lib.hid (HB.out.belowS hb1)
              replace HP := Lib.hid (HP.out.belowS hb1)
              replace HC := Lib.hid (Kd.C_below HC.out hb1)
              replace HLOW := Lib.hid (Below.trans HLOW.out (hb1.mono HLOW.out.size))
              replace HLU9 := Lib.hid (Below.trans HLU9.out (hb1.mono HLU9.out.size))
              replace Hq := Lib.hid (Hq.out.belowS hb1)
              replace Cq := Lib.hid (Kd.C_below Cq.out hb1)
              replace Hs := Lib.hid (Hs.out.belowS hb1)
              replace Cs := Lib.hid (Kd.C_below Cs.out hb1)
              clear hb1 hR hnx HD b0 b1 b2 v11
              have b0 := HB.out.cell (j := 0) rfl
              have b1 := HB.out.cell (j := 1) rfl
              have b2 := HB.out.cell (j := 2) rfl
              have hd := rStmt acc clo B nb cb ps HL.out ii (xl, xe) HRS.out v12 HC.out hcb (by omega)
              dsimp only at hd
              have HD := Lib.hid hd
              clear hd
              go_upto_region 25 with (first | (go_at_call 20; (with_reducible refine HD.out.mono ?_); rintro e v13 ⟨Ay, cy, ny, hny, hcy, rfl, hR, hb1⟩) | fail)
              have Cy := Lib.hid (Kd.R_reads' hR).2.2
              have Ny := Lib.hid hny
              replace HB := Lib.hid (HB.out.belowS hb1)
              replace HP := Lib.hid (HP.out.belowS hb1)
              replace HC := Lib.hid (Kd.C_below HC.out hb1)
              replace HLOW := Lib.hid (Below.trans HLOW.out (hb1.mono HLOW.out.size))
              replace HLU9 := Lib.hid (Below.trans HLU9.out (hb1.mono HLU9.out.size))
              replace Hq := Lib.hid (Hq.out.belowS hb1)
              replace Cq := Lib.hid (Kd.C_below Cq.out hb1)
              replace Hs := Lib.hid (Hs.out.belowS hb1)
              replace Cs := Lib.hid (Kd.C_below Cs.out hb1)
              replace Cx := Lib.hid (Kd.C_below Cx.out hb1)
              clear hb1 hR hny HD b0 b1 b2 v12
              have b0 := HB.out.cell (j := 0) rfl
              have b1 := HB.out.cell (j := 1) rfl
              have b2 := HB.out.cell (j := 2) rfl
              have hd := bBal_walk acc clo B nb cb ps HL.out a4 ii (yb, ye) HRB.out v13 HC.out hcb (by omega)
              dsimp only at hd
              have HD := Lib.hid hd
              clear hd
              go_upto_region 26 with (first | (go_at_call 21; (with_reducible refine HD.out.mono ?_); rintro e v14 ⟨rfl, hb1⟩) | fail)
              replace HB := Lib.hid (HB.out.belowS hb1)
              replace HP := Lib.hid (HP.out.belowS hb1)
              replace HC := Lib.hid (Kd.C_below HC.out hb1)
              replace HLOW := Lib.hid (Below.trans HLOW.out (hb1.mono HLOW.out.size))
              replace HLU9 := Lib.hid (Below.trans HLU9.out (hb1.mono HLU9.out.size))
              replace Hq := Lib.hid (Hq.out.belowS hb1)
              replace Cq := Lib.hid (Kd.C_below Cq.out hb1)
              replace Hs := Lib.hid (Hs.out.belowS hb1)
              replace Cs := Lib.hid (Kd.C_below Cs.out hb1)
              replace Cx := Lib.hid (Kd.C_below Cx.out hb1)
              replace Cy := Lib.hid (Kd.C_below Cy.out hb1)
              clear hb1 HD b0 b1 b2 v13
              have b0 := HB.out.cell (j := 0) rfl
              have b1 := HB.out.cell (j := 1) rfl
              have b2 := HB.out.cell (j := 2) rfl
              have hd := rBal_walk acc clo B nb cb ps HL.out a4 ii (yb, ye) HRB.out v14 HC.out hcb (by omega)
              dsimp only at hd
              have HD := Lib.hid hd
              clear hd
              go_upto_region 27 with (first | (go_at_call 22; (with_reducible refine HD.out.mono ?_); rintro e v15 ⟨rfl, hb1⟩) | fail)
              replace HB := Lib.hid (HB.out.belowS hb1)
              replace HP := Lib.hid (HP.out.belowS hb1)
              replace HC := Lib.hid (Kd.C_below HC.out hb1)
              replace HLOW := Lib.hid (Below.trans HLOW.out (hb1.mono HLOW.out.size))
              replace HLU9 := Lib.hid (Below.trans HLU9.out (hb1.mono HLU9.out.size))
              replace Hq := Lib.hid (Hq.out.belowS hb1)
              replace Cq := Lib.hid (Kd.C_below Cq.out hb1)
              replace Hs := Lib.hid (Hs.out.belowS hb1)
              replace Cs := Lib.hid (Kd.C_below Cs.out hb1)
              replace Cx := Lib.hid (Kd.C_below Cx.out hb1)
              replace Cy := Lib.hid (Kd.C_below Cy.out hb1)
              clear hb1 HD b0 b1 b2 v14
              have q0 := Hq.out.cell (j := 0) rfl
              have q1 := Hq.out.cell (j := 1) rfl
              have q2 := Hq.out.cell (j := 2) rfl
              have s0 := Hs.out.cell (j := 0) rfl
              have s1 := Hs.out.cell (j := 1) rfl
              have s2 := Hs.out.cell (j := 2) rfl
              have hd := rSame_walk r1 r3 nq (by have := Nq.out; omega) Aq As cq cs rl Nq.out v15 Cq.out hcq Cs.out hcs
              have HD := Lib.hid hd
              clear hd
              have hxy : nx = ny := Nx.out.symm.trans Ny.out
              subst hxy
              have HD2 : Hid (∀ X, Below v15.heap.size v15 X → Calls Try.prog 23 #[.slice Ax nx cx, .slice Ay nx cy] X fun e w' => e = .returned (.bool true) ∧ Below X.heap.size X w') := Lib.hid fun X hX => rInts_walk nx (by have := Nx.out; omega) Ax Ay cx cy xl Nx.out X (by have h := Kd.C_below Cx.out hX; rwa [Nx.out] at h) hcx (by have h := Kd.C_below Cy.out hX; rwa [Nx.out] at h) hcy
              go_wp2_with (first | (go_at_call 13; (with_reducible refine HD.out.mono ?_); rintro e v16 ⟨rfl, hbs⟩) | (go_at_call 23; (with_reducible refine (HD2.out _ hbs).mono ?_); rintro e v17 ⟨rfl, hbt⟩; have hb1 := Below.trans hbs (hbt.mono hbs.size)) | fail)
              replace HB := Lib.hid (HB.out.belowS hb1)
              replace HP := Lib.hid (HP.out.belowS hb1)
              replace HC := Lib.hid (Kd.C_below HC.out hb1)
              replace HLOW := Lib.hid (Below.trans HLOW.out (hb1.mono HLOW.out.size))
              replace HLU9 := Lib.hid (Below.trans HLU9.out (hb1.mono HLU9.out.size))
              replace Hq := Lib.hid (Hq.out.belowS hb1)
              replace Cq := Lib.hid (Kd.C_below Cq.out hb1)
              replace Hs := Lib.hid (Hs.out.belowS hb1)
              replace Cs := Lib.hid (Kd.C_below Cs.out hb1)
              replace Cx := Lib.hid (Kd.C_below Cx.out hb1)
              replace Cy := Lib.hid (Kd.C_below Cy.out hb1)
              go_roundw
              case rel => exact ⟨j9 + 1, by omega, by go_num, HLU9.out⟩
              case measure => simp [intOf]; omega
            · have hke : j9 = 3 := by omega
              subst hke
              replace HB := Lib.hid (HB.out.belowS hbel)
              replace HP := Lib.hid (HP.out.belowS hbel)
              replace HC := Lib.hid (Kd.C_below HC.out hbel)
              replace HLOW := Lib.hid (Below.trans HLOW.out (hbel.mono HLOW.out.size))
              clear hbel hk hlt HI9
              obtain ⟨v18, rfl⟩ : ∃ x : World, x = wr := ⟨_, rfl⟩
              clear HAI9
              have hnl : ¬ ((3 : Nat) : Int) < 3 := by omega
              go_wp2
              clear hnl
              obtain ⟨qs, hqs⟩ : ∃ q, pk p.f5 6 = q := ⟨_, rfl⟩
              have HQS := Lib.hid hqs
              clear hqs
              have p5 := HP.out.cell (j := 5) rfl
              have hS : v18.drew.cell? ⟨gp, 5, none⟩ = some (.int .i64 p.f5) := p5
              go_region_held3 (fun w' => w'.cell? ⟨gp, 5, none⟩ = some (.int .i64 p.f5)) (first | (with_reducible exact hS) | (with_reducible exact keepB ((Below.refl _ _).alloc (Nat.le_refl _) _) hS) | fail) (first | (go_at_call 14; (with_reducible refine (lpick_is p.f5 6 H5.out (by omega) qs HQS.out _).mono ?_); rintro e w5 ⟨rfl, hw5⟩; obtain rfl := hw5.symm; clear hw5) | fail)
              rename_i hHeld_
              clear hHeld_ hS p5
              have hb1 : Below v18.heap.size v18 (v18.alloc (.cells #[.int .i64 p.f5, .int .i64 qs] 3)).drew := below_drew1 ((Below.refl _ _).alloc (Nat.le_refl _) _)
              have HI19 := Lib.hid ((Blk.newA v18 3 #[.int .i64 p.f5, .int .i64 qs] [.int .i64 p.f5, .int .i64 qs] rfl).drew)
              replace HB := Lib.hid (HB.out.belowS hb1)
              replace HP := Lib.hid (HP.out.belowS hb1)
              replace HC := Lib.hid (Kd.C_below HC.out hb1)
              replace HLOW := Lib.hid (Below.trans HLOW.out (hb1.mono HLOW.out.size))
              clear hb1
              generalize (v18.alloc (.cells #[.int .i64 p.f5, .int .i64 qs] 3)).drew = u19 at *
              generalize v18.heap.size = gI19 at *
              clear v18
              obtain ⟨adI19, hadI⟩ : ∃ ad : Addr, (⟨gI19, 0, none⟩ : Addr) = ad := ⟨_, rfl⟩
              rw [hadI]
              have HAI19 := Lib.hid hadI
              clear hadI
              go_wp2
              go_loopw [232] (fun v wr => ∃ k : Nat, k ≤ 2 ∧ v = .int .i64 (k : Int) ∧ Below u19.heap.size u19 wr) (fun v wr => 2 - (intOf v).toNat)
              case atStart => exact ⟨0, by omega, rfl, Below.refl _ _⟩
              case round =>
                obtain ⟨j19, hk, rfl, hbel⟩ := hrel
                by_cases hlt : j19 < 2
                · have hki : (j19 : Int) < 2 := by omega
                  obtain ⟨ii, e0⟩ : ∃ ii : Int, wr.cell? (adI19.add j19) = some (.int .i64 ii) := by
                    rw [← HAI19.out]
                    have hA := HI19.out.belowS hbel
                    rcases (show j19 = 0 ∨ j19 = 1 by omega) with rfl | rfl
                    · exact ⟨_, hA.cell (j := 0) rfl⟩
                    · exact ⟨_, hA.cell (j := 1) rfl⟩
                  have HLU19 := Lib.hid hbel
                  replace HB := Lib.hid (HB.out.belowS hbel)
                  replace HP := Lib.hid (HP.out.belowS hbel)
                  replace HC := Lib.hid (Kd.C_below HC.out hbel)
                  replace HLOW := Lib.hid (Below.trans HLOW.out (hbel.mono HLOW.out.size))
                  clear hbel
                  obtain ⟨rS, hrS⟩ : ∃ r, owesF acc ps clo ii = r := ⟨_, rfl⟩
                  have hlS := owesF_len _ _ _ _ _ hrS
                  obtain ⟨xl, xe⟩ := rS
                  have HRS := Lib.hid hrS
                  dsimp only at hlS
                  clear hrS
                  have b0 := HB.out.cell (j := 0) rfl
                  have b1 := HB.out.cell (j := 1) rfl
                  have b2 := HB.out.cell (j := 2) rfl
                  have hd := bOwed acc clo B nb cb ps HL.out ii (xl, xe) HRS.out wr HC.out hcb (by omega)
                  dsimp only at hd
                  have HD := Lib.hid hd
                  clear hd
                  go_upto_region 34 with (first | (go_at_call 24; (with_reducible refine HD.out.mono ?_); rintro e v20 ⟨Ax, cx, nx, hnx, hcx, rfl, hR, hb1⟩) | fail)
                  have Cx := Lib.hid (Kd.R_reads' hR).2.2
                  have Nx := Lib.hid hnx
                  replace HB := Lib.hid (HB.out.belowS hb1)
                  replace HP := Lib.hid (HP.out.belowS hb1)
                  replace HC := Lib.hid (Kd.C_below HC.out hb1)
                  replace HLOW := Lib.hid (Below.trans HLOW.out (hb1.mono HLOW.out.size))
                  replace HLU19 := Lib.hid (Below.trans HLU19.out (hb1.mono HLU19.out.size))
                  clear hb1 hR hnx HD b0 b1 b2 e0 wr
                  have b0 := HB.out.cell (j := 0) rfl
                  have b1 := HB.out.cell (j := 1) rfl
                  have b2 := HB.out.cell (j := 2) rfl
                  have hd := rOwed acc clo B nb cb ps HL.out ii (xl, xe) HRS.out v20 HC.out hcb (by omega)
                  dsimp only at hd
                  have HD := Lib.hid hd
                  clear hd
                  go_upto_region 35 with (first | (go_at_call 25; (with_reducible refine HD.out.mono ?_); rintro e v21 ⟨Ay, cy, ny, hny, hcy, rfl, hR, hb1⟩) | fail)
                  have Cy := Lib.hid (Kd.R_reads' hR).2.2
                  have Ny := Lib.hid hny
                  replace HB := Lib.hid (HB.out.belowS hb1)
                  replace HP := Lib.hid (HP.out.belowS hb1)
                  replace HC := Lib.hid (Kd.C_below HC.out hb1)
                  replace HLOW := Lib.hid (Below.trans HLOW.out (hb1.mono HLOW.out.size))
                  replace HLU19 := Lib.hid (Below.trans HLU19.out (hb1.mono HLU19.out.size))
                  replace Cx := Lib.hid (Kd.C_below Cx.out hb1)
                  clear hb1 hR hny HD b0 b1 b2 v20
                  have hxy : nx = ny := Nx.out.symm.trans Ny.out
                  subst hxy
                  have hd := rInts_walk nx (by have := Nx.out; omega) Ax Ay cx cy xl Nx.out v21 (by have h := Cx.out; rwa [Nx.out] at h) hcx (by have h := Cy.out; rwa [Nx.out] at h) hcy
                  have HD := Lib.hid hd
                  clear hd
                  go_wp2_with (first | (go_at_call 23; (with_reducible refine HD.out.mono ?_); rintro e v22 ⟨rfl, hb1⟩) | fail)
                  replace HB := Lib.hid (HB.out.belowS hb1)
                  replace HP := Lib.hid (HP.out.belowS hb1)
                  replace HC := Lib.hid (Kd.C_below HC.out hb1)
                  replace HLOW := Lib.hid (Below.trans HLOW.out (hb1.mono HLOW.out.size))
                  replace HLU19 := Lib.hid (Below.trans HLU19.out (hb1.mono HLU19.out.size))
                  replace Cx := Lib.hid (Kd.C_below Cx.out hb1)
                  replace Cy := Lib.hid (Kd.C_below Cy.out hb1)
                  go_roundw
                  case rel => exact ⟨j19 + 1, by omega, by go_num, HLU19.out⟩
                  case measure => simp [intOf]; omega
                · have hke : j19 = 2 := by omega
                  subst hke
                  replace HB := Lib.hid (HB.out.belowS hbel)
                  replace HP := Lib.hid (HP.out.belowS hbel)
                  replace HC := Lib.hid (Kd.C_below HC.out hbel)
                  replace HLOW := Lib.hid (Below.trans HLOW.out (hbel.mono HLOW.out.size))
                  clear hbel hk hlt HI19
                  obtain ⟨v23, rfl⟩ : ∃ x : World, x = wr := ⟨_, rfl⟩
                  clear HAI19
                  have hnl : ¬ ((2 : Nat) : Int) < 2 := by omega
                  go_wp2
                  clear hnl
                  go_roundw
                  case rel => exact ⟨k + 1, by omega, by go_num, HLOW.out⟩
                  case measure => simp [intOf]; omega
    · have hke : k = 2 := by omega
      subst hke
      have HB9 := Lib.hid (Below.trans HBW5.out (hbel.mono HBW5.out.size))
      have hnl : ¬ ((2 : Nat) : Int) < 2 := by omega
      go_wp2
      go_ret
      exact ⟨rfl, HB9.out⟩
end Go.Proofs.Ytooogaogbffjfaa.Ext
end
