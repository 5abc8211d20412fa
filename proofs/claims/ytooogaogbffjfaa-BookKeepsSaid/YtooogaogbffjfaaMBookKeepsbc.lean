import Derived.Test.YtooogaogbffjfaaMBookKeepsba
import Derived.Test.YtooogaogbffjfaaMBookKeepsbb
import Derived.Deep.CutBlock
/-
  Texts of this claim, one behind the other: what they prove stands above each.
-/
section
/-
  The law BookKeeps, walked by hand.
-/
set_option linter.unusedVariables false
set_option linter.unusedSimpArgs false
namespace Go.Proofs.Ytooogaogbffjfaa.Ext
open Go.RowKit Go.Shelf Go.Proofs.YtooogaogbffjfaaW.PrintWords Go.Proofs.YtooogaogbffjfaaW.PrintLast Go.Proofs.YtooogaogbffjfaaW.PrintMore Go.Proofs.Ytooogaogbffjfaa.PK Go.Proofs.Ytooogaogbffjfaa.Bk Go.Proofs.Ytooogaogbffjfaa.PB Go.Proofs.Ytooogaogbffjfaa.Pure
attribute [local go_sem] Oper.semAt_some max2_int min2_int max_two min_two dn_cell dn_frz dn_set
theorem Own.take2 {w0 w : World} {g : Nat} {acc acc' clo clo' : Int} {A A' : Option Addr} {n c n' c' b : Nat} {ps qs : List S27} (h : Own w0 w g acc A n c clo ps) (hq : qs.length = n') (hR : Kd.R k27 27 w b (fun _ => True) (.slice A' n' c') qs) (hb : w0.heap.size ≤ b) :
    Own w0 (((w.setCell ⟨g, 0, none⟩ (.int .i64 acc')).setCell ⟨g, 1, none⟩ (.slice A' n' c')).setCell ⟨g, 2, none⟩ (.int .i64 clo')) g acc' A' n' c' clo' qs := by
  have hr := (Kd.R_reads' hR)
  exact ⟨hq, by have := hr.2.1; omega, put3_blk h.2.2.1 _ _ _, Kd.R_lower (res_keep hR h.2.2.1 _ _ _) hb⟩
set_option maxRecDepth 100000 in
set_option maxHeartbeats 4000000 in
theorem keepLaw_walk (a0 : Int) (A1 : Option Addr) (n1 c1 : Nat) (l1 : List S48) (hl1 : l1.length = n1) (A2 : Option Addr) (n2 c2 : Nat) (l2 : List S48) (hl2 : l2.length = n2) (hx2 : ∀ x ∈ l2, I64x x) (N : Nat) (ps0 : List S27) (clo0 : Int) (hm : aircheckref24_Made.f a0 l1 = some ((N : Int), ps0, clo0)) (hv0 : validB (N : Int) ps0 clo0 = true) (w : World) (hr1 : Kd.C k48 w A1 n1 l1) (hc1 : n1 ≤ c1) (hr2 : Kd.C k48 w A2 n2 l2) (hc2 : n2 ≤ c2) :
    Calls Try.prog 5 #[.int .i64 a0, .slice A1 n1 c1, .slice A2 n2 c2] w fun e w' => e = .returned (.bool true) ∧ Below w.heap.size w w' := by
  have HM := Lib.hid hm
  have HR1 := Lib.hid hr1
  have HR2 := Lib.hid hr2
  have HX2 := Lib.hid hx2
  have HL1 := Lib.hid hl1
  have HL2 := Lib.hid hl2
  have HV0 := Lib.hid hv0
  have hms : (n2 : Int) ≤ 9223372036854775807 := by have := Kd.C_max hr2; omega
  clear hm hr1 hr2 hl1 hl2 hx2 hv0
  go_enter Try.func5, Try.ntmps5
  go_upto_region 3 with (first | (go_at_call 7; (with_reducible refine (airchecklaw24_sane.calls true _ rfl).mono ?_); rintro e w2 ⟨rfl, hb2⟩) | (go_at_call 8; (refine (made_walk2 a0 A1 n1 c1 l1 HL1.out N ps0 clo0 HM.out _ (Kd.C_below HR1.out hb2) hc1).mono ?_); rintro e w3 ⟨A, c, nn, hnn, rfl, hR3, hb3⟩) | fail)
  have hO : Own w (w3.alloc (.cells #[.int .i64 (N : Int), .slice A nn c, .int .i64 clo0] 24)) w3.heap.size (N : Int) A nn c clo0 ps0 := ⟨hnn, (Kd.R_reads' hR3).2.1, Blk.newA w3 _ _ _ rfl, Kd.R_alloc (Kd.R_lower hR3 hb2.size) _⟩
  have hB4 : Below w.heap.size w (w3.alloc (.cells #[.int .i64 (N : Int), .slice A nn c, .int .i64 clo0] 24)) := (Below.trans hb2 (hb3.mono hb2.size)).alloc (Nat.le_trans hb2.size hb3.size) _
  have HLG : Hid (w.heap.size ≤ w3.heap.size) := Lib.hid (Nat.le_trans hb2.size hb3.size)
  clear hnn hR3 hb2 hb3
  generalize w3.alloc (.cells #[.int .i64 (N : Int), .slice A nn c, .int .i64 clo0] 24) = w4 at *
  generalize w3.heap.size = g at *
  clear w3 w2
  have hd := bValid_walk (N : Int) clo0 A nn c ps0 hO.1 true HV0.out w4 hO.reads hO.2.1 (by have := valid_len HV0.out; have := hO.1; omega)
  have HD := Lib.hid hd
  have g0 := hO.2.2.1.cell (j := 0) rfl
  have g1 := hO.2.2.1.cell (j := 1) rfl
  have g2 := hO.2.2.1.cell (j := 2) rfl
  have HO := Lib.hid hO
  have HBW := Lib.hid hB4
  clear hd hO hB4
  go_wp2_with (first | (go_at_call 11; (with_reducible refine HD.out.mono ?_); rintro e w5 ⟨rfl, hb1⟩) | fail)
  replace HO := Lib.hid (HO.out.below hb1)
  replace HBW := Lib.hid (Below.trans HBW.out (hb1.mono HBW.out.size))
  clear hb1 HD g0 g1 g2 w4
  go_loopw [9] (fun v wr => ∃ (k : Nat) (A' : Option Addr) (n' c' : Nat) (clo : Int) (ps : List S27), k ≤ n2 ∧ k ≤ 8 ∧ v = .int .i64 (k : Int) ∧ Hid (Own w wr g (N : Int) A' n' c' clo ps) ∧ Hid (validB (N : Int) ps clo = true) ∧ Hid (Below w.heap.size w wr)) (fun v wr => n2 - (intOf v).toNat)
  case atStart => exact ⟨0, A, nn, c, clo0, ps0, by omega, by omega, rfl, HO, HV0, HBW⟩
  case round =>
    clear HO HV0 HBW HR1 HM HL1
    obtain ⟨k, B, nb, cb, clo, ps, hk, hk8, rfl, HO, HV, HBW⟩ := hrel
    by_cases hlt : k < n2 ∧ k < 8
    · obtain ⟨hkn, hk2⟩ := hlt
      have hki : (k : Int) < (n2 : Int) := by omega
      have hki2 : (k : Int) < 8 := by omega
      obtain ⟨ad, rfl, x0, x1, x2, x3, x4⟩ := at_T48 (Kd.C_below HR2.out HBW.out) (k : Int) (by omega) hki
      rw [Int.toNat_natCast] at x0 x1 x2 x3 x4
      have hix : I64x (rd_T48 l2 (k : Int)) := HX2.out _ (by
        have hkl : k < l2.length := by rw [HL2.out]; exact hkn
        unfold rd_T48
        rw [Int.toNat_natCast, List.getD_eq_getElem?_getD, List.getElem?_eq_getElem hkl]
        exact List.getElem_mem hkl)
      generalize rd_T48 l2 (k : Int) = x at *
      obtain ⟨i0, i1, i2, i3, i4⟩ := hix
      have I0 := Lib.hid i0
      have I1 := Lib.hid i1
      have I2 := Lib.hid i2
      have I3 := Lib.hid i3
      have I4 := Lib.hid i4
      clear i0 i1 i2 i3 i4
      go_upto_region 9 with (fail)
      have hb1 : Below wr.heap.size wr (wr.alloc (.cells #[.int .i64 x.f0, .int .i64 x.f1, .int .i64 x.f2, .int .i64 x.f3, .int .i64 x.f4] 48)) := (Below.refl _ _).alloc (Nat.le_refl _) _
      have HX := Lib.hid (Blk.newA wr 48 #[.int .i64 x.f0, .int .i64 x.f1, .int .i64 x.f2, .int .i64 x.f3, .int .i64 x.f4] [.int .i64 x.f0, .int .i64 x.f1, .int .i64 x.f2, .int .i64 x.f3, .int .i64 x.f4] rfl)
      have HXG : Hid (w.heap.size ≤ wr.heap.size) := Lib.hid HBW.out.size
      replace HO := Lib.hid (HO.out.below hb1)
      replace HBW := Lib.hid (Below.trans HBW.out (hb1.mono HBW.out.size))
      clear hb1 x0 x1 x2 x3 x4
      generalize wr.alloc (.cells #[.int .i64 x.f0, .int .i64 x.f1, .int .i64 x.f2, .int .i64 x.f3, .int .i64 x.f4] 48) = v0 at *
      generalize wr.heap.size = gx at *
      clear wr
      obtain ⟨q1, hq1⟩ : ∃ q, pk x.f1 360 = q := ⟨_, rfl⟩
      have HQ1 := Lib.hid hq1
      obtain ⟨q2, hq2⟩ : ∃ q, pk x.f2 4 = q := ⟨_, rfl⟩
      have HQ2 := Lib.hid hq2
      obtain ⟨q3, hq3⟩ : ∃ q, pk x.f3 4 = q := ⟨_, rfl⟩
      have HQ3 := Lib.hid hq3
      obtain ⟨q4, hq4⟩ : ∃ q, pk x.f4 1000 = q := ⟨_, rfl⟩
      have HQ4 := Lib.hid hq4
      obtain ⟨q5, hq5⟩ : ∃ q, pk x.f4 6 = q := ⟨_, rfl⟩
      have HQ5 := Lib.hid hq5
      clear hq1 hq2 hq3 hq4 hq5
      have z1 := HX.out.cell (j := 1) rfl
      go_upto_region 10 with (first | (go_at_call 14; (with_reducible refine (lpick_is x.f1 360 I1.out (by omega) q1 HQ1.out _).mono ?_); rintro e w5 ⟨rfl, hw5⟩; obtain rfl := hw5.symm; clear hw5) | fail)
      have z2 := HX.out.cell (j := 2) rfl
      have z3 := HX.out.cell (j := 3) rfl
      have z4 := HX.out.cell (j := 4) rfl
      have hS : v0.drew.cell? ⟨gx, 2, none⟩ = some (.int .i64 x.f2) ∧ v0.drew.cell? ⟨gx, 3, none⟩ = some (.int .i64 x.f3) ∧ v0.drew.cell? ⟨gx, 4, none⟩ = some (.int .i64 x.f4) := ⟨z2, z3, z4⟩
      apply wp_mid (M := fun w' => w' = (v0.alloc (.cells #[.int .i64 2, .int .i64 q1, .int .i64 q2, .int .i64 q3, .int .i64 q4, .int .i64 q5, .int .i64 (-1)] 27)).drew)
      · go_region_held3 (fun w' => w'.cell? ⟨gx, 2, none⟩ = some (.int .i64 x.f2) ∧ w'.cell? ⟨gx, 3, none⟩ = some (.int .i64 x.f3) ∧ w'.cell? ⟨gx, 4, none⟩ = some (.int .i64 x.f4)) (first | (with_reducible exact hS) | (with_reducible exact ⟨keepB ((Below.refl _ _).alloc (Nat.le_refl _) _) hS.1, keepB ((Below.refl _ _).alloc (Nat.le_refl _) _) hS.2.1, keepB ((Below.refl _ _).alloc (Nat.le_refl _) _) hS.2.2⟩) | fail) (first | (go_at_call 14; (with_reducible refine (lpick_is x.f2 4 I2.out (by omega) q2 HQ2.out _).mono ?_); rintro e w5 ⟨rfl, hw5⟩; obtain rfl := hw5.symm; clear hw5) | (go_at_call 14; (with_reducible refine (lpick_is x.f3 4 I3.out (by omega) q3 HQ3.out _).mono ?_); rintro e w5 ⟨rfl, hw5⟩; obtain rfl := hw5.symm; clear hw5) | (go_at_call 14; (with_reducible refine (lpick_is x.f4 1000 I4.out (by omega) q4 HQ4.out _).mono ?_); rintro e w5 ⟨rfl, hw5⟩; obtain rfl := hw5.symm; clear hw5) | (go_at_call 14; (with_reducible refine (lpick_is x.f4 6 I4.out (by omega) q5 HQ5.out _).mono ?_); rintro e w5 ⟨rfl, hw5⟩; obtain rfl := hw5.symm; clear hw5) | fail)
        all_goals exact ⟨rfl, rfl, rfl⟩
      rintro _ rfl
      have hb1 : Below v0.heap.size v0 (v0.alloc (.cells #[.int .i64 2, .int .i64 q1, .int .i64 q2, .int .i64 q3, .int .i64 q4, .int .i64 q5, .int .i64 (-1)] 27)).drew := below_drew1 ((Below.refl _ _).alloc (Nat.le_refl _) _)
      have HP := Lib.hid (Blk.newA v0 27 #[.int .i64 2, .int .i64 q1, .int .i64 q2, .int .i64 q3, .int .i64 q4, .int .i64 q5, .int .i64 (-1)] [.int .i64 2, .int .i64 q1, .int .i64 q2, .int .i64 q3, .int .i64 q4, .int .i64 q5, .int .i64 (-1)] rfl).drew
      replace HO := Lib.hid (HO.out.below hb1)
      replace HBW := Lib.hid (Below.trans HBW.out (hb1.mono HBW.out.size))
      replace HX := Lib.hid (HX.out.belowS hb1)
      clear hb1 hS z1 z2 z3 z4
      generalize (v0.alloc (.cells #[.int .i64 2, .int .i64 q1, .int .i64 q2, .int .i64 q3, .int .i64 q4, .int .i64 q5, .int .i64 (-1)] 27)).drew = v1 at *
      generalize v0.heap.size = gp at *
      clear v0
      obtain ⟨rP, hrP⟩ : ∃ r, postF (N : Int) ps clo ⟨2, q1, q2, q3, q4, q5, -1⟩ = r := ⟨_, rfl⟩
      have hpk := post_keep (N : Int) clo ps _ HV.out _ hrP
      obtain ⟨r1, rl, r3, r4, r5⟩ := rP
      have HRP := Lib.hid hrP
      have HPK := Lib.hid hpk
      clear hrP hpk
      have hlen := valid_len HV.out
      have hnb : nb ≤ 200 := by have := HO.out.1; omega
      have hd := bPost (N : Int) clo B nb cb ps HO.out.1 ⟨2, q1, q2, q3, q4, q5, -1⟩ (r1, rl, r3, r4, r5) HRP.out v1 HO.out.reads HO.out.2.1 (by omega)
      dsimp only at hd
      have HD := Lib.hid hd
      have HBO := Lib.hid HO.out.2.2.1
      clear hd hlen
      have b0 := HBO.out.cell (j := 0) rfl
      have b1 := HBO.out.cell (j := 1) rfl
      have b2 := HBO.out.cell (j := 2) rfl
      have p0 := HP.out.cell (j := 0) rfl
      have p1 := HP.out.cell (j := 1) rfl
      have p2 := HP.out.cell (j := 2) rfl
      have p3 := HP.out.cell (j := 3) rfl
      have p4 := HP.out.cell (j := 4) rfl
      have p5 := HP.out.cell (j := 5) rfl
      have p6 := HP.out.cell (j := 6) rfl
      go_upto_region 12 with (first | (go_at_call 9; (with_reducible refine HD.out.mono ?_); rintro e v2 ⟨An, cx, nx, hnx, hcx, rfl, hR, hb⟩) | fail)
      have hb1 : Below v1.heap.size v1 (v2.alloc (.cells #[.int .i64 r1, .slice An nx cx, .int .i64 r3] 24)) := hb.alloc hb.size _
      have HN : Hid (Own w (v2.alloc (.cells #[.int .i64 r1, .slice An nx cx, .int .i64 r3] 24)) v2.heap.size r1 An nx cx r3 rl) := Lib.hid ⟨hnx, hcx, Blk.newA v2 _ _ _ rfl, Kd.R_alloc (Kd.R_lower hR HBW.out.size) _⟩
      have HNG : Hid (g < v2.heap.size) := Lib.hid (by have := HBO.out.lt; have := hb.size; omega)
      have HXN : Hid (gx < v2.heap.size) := Lib.hid (by have := HX.out.lt; have := hb.size; omega)
      replace HO := Lib.hid (HO.out.below hb1)
      replace HBW := Lib.hid (Below.trans HBW.out (hb1.mono HBW.out.size))
      replace HX := Lib.hid (HX.out.belowS hb1)
      replace HP := Lib.hid (HP.out.belowS hb1)
      clear hb hb1 hR hnx hcx HD HBO HP b0 b1 b2 p0 p1 p2 p3 p4 p5 p6
      generalize v2.alloc (.cells #[.int .i64 r1, .slice An nx cx, .int .i64 r3] 24) = v3 at *
      generalize v2.heap.size = gn at *
      clear v2 v1
      obtain ⟨qk, hqk⟩ : ∃ q, pk x.f0 4 = q := ⟨_, rfl⟩
      have HQK := Lib.hid hqk
      clear hqk
      have z0 := HX.out.cell (j := 0) rfl
      go_upto_block 2 with (first | (go_at_call 14; (with_reducible refine (lpick_is x.f0 4 I0.out (by omega) qk HQK.out _).mono ?_); rintro e w5 ⟨rfl, hw5⟩; obtain rfl := hw5.symm; clear hw5) | fail)
      clear z0
      go_cut [14, 15, 16] from 29 to 202 (fun vn ve va wx => ∃ (nv ev av r1 r3 : Int) (rl : List S27) (An : Option Addr) (nx cx : Nat), vn = .int .i64 nv ∧ ve = .int .i64 ev ∧ va = .int .i64 av ∧ Hid (Own w wx gn r1 An nx cx r3 rl) ∧ Hid (Own w wx g (N : Int) B nb cb clo ps) ∧ Hid (Below w.heap.size w wx) ∧ Hid ((ev = 0 ∧ r1 = (N : Int) ∧ nv = (nb : Int) ∧ av = (rl.length : Int) - (nb : Int) ∧ Keep (N : Int) clo ps r3 rl) ∨ (ev = 240 ∧ r1 = 0 ∧ rl = [] ∧ r3 = 0)))
      case first =>
        have hgn : g ≠ gn := by have := HNG.out; omega
        have hng : gn ≠ g := by have := HNG.out; omega
        have hxn : gx ≠ gn := by have := HXN.out; omega
        by_cases hq2 : qk = 2
        · have eq2 : (qk == 2) = true := beq_iff_eq.2 hq2
          have eq3 : (qk == 3) = false := beq_eq_false_iff_ne.2 (by omega)
          clear hq2
          as_aux_lemma =>
            obtain ⟨qi, hqi⟩ : ∃ q, pk x.f2 30 = q := ⟨_, rfl⟩
            have HQI := Lib.hid hqi
            clear hqi
            obtain ⟨qa, hqa⟩ : ∃ q, pk x.f4 1000 = q := ⟨_, rfl⟩
            have HQA := Lib.hid hqa
            clear hqa
            obtain ⟨rD, hrD⟩ : ∃ r, dispF (N : Int) ps clo qi q1 qa = r := ⟨_, rfl⟩
            have hdk := disp_keep (N : Int) clo ps qi q1 qa HV.out _ hrD
            have hdl := dispF_len _ _ _ _ _ _ _ hrD
            obtain ⟨d1, dl, d3, d4⟩ := rD
            have HRD := Lib.hid hrD
            have HDK := Lib.hid hdk
            dsimp only at hdl
            clear hrD hdk
            have hdl2 : dl.length ≤ 210 := by have := HO.out.1; omega
            clear hdl
            have HCL : Hid (∀ V, Below v3.heap.size v3 V → Calls Try.prog 15 #[.agg #[.int .i64 (N : Int), .slice B nb cb, .int .i64 clo], .int .i64 qi, .int .i64 q1, .int .i64 qa] V fun e w' => ∃ (A' : Option Addr) (c' n' : Nat), dl.length = n' ∧ n' ≤ c' ∧ e = .returned (.tuple #[.agg #[.int .i64 d1, .slice A' n' c', .int .i64 d3], .int .i64 d4]) ∧ Kd.R k27 27 w' V.heap.size (fun _ => True) (.slice A' n' c') dl ∧ Below V.heap.size V w') := Lib.hid fun V hV => bDisp (N : Int) clo B nb cb ps HO.out.1 qi q1 qa (d1, dl, d3, d4) HRD.out V (HO.out.below hV).reads HO.out.2.1 (by omega)
            have HNB := Lib.hid HN.out.2.2.1
            have b0 := HO.out.2.2.1.cell (j := 0) rfl
            have b1 := HO.out.2.2.1.cell (j := 1) rfl
            have b2 := HO.out.2.2.1.cell (j := 2) rfl
            have z2 := HX.out.cell (j := 2) rfl
            have z4 := HX.out.cell (j := 4) rfl
            have hS : v3.drew.cell? ⟨g, 0, none⟩ = some (.int .i64 (N : Int)) ∧ v3.drew.cell? ⟨g, 1, none⟩ = some (.slice B nb cb) ∧ v3.drew.cell? ⟨g, 2, none⟩ = some (.int .i64 clo) ∧ v3.drew.cell? ⟨gx, 2, none⟩ = some (.int .i64 x.f2) ∧ v3.drew.cell? ⟨gx, 4, none⟩ = some (.int .i64 x.f4) := ⟨b0, b1, b2, z2, z4⟩
            go_upto_region 15 with (fail)
            go_region_held3 (fun w' => w'.cell? ⟨g, 0, none⟩ = some (.int .i64 (N : Int)) ∧ w'.cell? ⟨g, 1, none⟩ = some (.slice B nb cb) ∧ w'.cell? ⟨g, 2, none⟩ = some (.int .i64 clo) ∧ w'.cell? ⟨gx, 2, none⟩ = some (.int .i64 x.f2) ∧ w'.cell? ⟨gx, 4, none⟩ = some (.int .i64 x.f4)) (first | (with_reducible exact hS) | (with_reducible exact hkd) | (refine ⟨?_, ?_, ?_, ?_, ?_⟩ <;> (repeat (first | with_reducible exact b0 | with_reducible exact b1 | with_reducible exact b2 | with_reducible exact z2 | with_reducible exact z4 | with_reducible refine c_drewN ?_ | with_reducible refine c_drew ?_ | with_reducible refine far_set hgn ?_ | with_reducible refine far_set hxn ?_ | with_reducible exact hkd.1 | with_reducible exact hkd.2.1 | with_reducible exact hkd.2.2.1 | with_reducible exact hkd.2.2.2.1 | with_reducible exact hkd.2.2.2.2))) | fail) (first | (go_at_call 14; (with_reducible refine (lpick_is x.f2 30 I2.out (by omega) qi HQI.out _).mono ?_); rintro e w5 ⟨rfl, hw5⟩; obtain rfl := hw5.symm; clear hw5) | (go_at_call 14; (with_reducible refine (lpick_is x.f4 1000 I4.out (by omega) qa HQA.out _).mono ?_); rintro e w5 ⟨rfl, hw5⟩; obtain rfl := hw5.symm; clear hw5) | (go_at_call 15; (with_reducible refine (HCL.out _ ?_).mono ?_); (first | exact below_dN (Below.refl _ _) _ | exact below_drew1 (Below.refl _ _)); rintro e w8 ⟨Ad, cd, nd, hnd, hcd, rfl, hRd, hb8⟩; have hb8' : Below v3.heap.size v3 w8 := Below.trans (below_dN (Below.refl _ _) 1) hb8; have hkd : w8.cell? ⟨g, 0, none⟩ = some (.int .i64 (N : Int)) ∧ w8.cell? ⟨g, 1, none⟩ = some (.slice B nb cb) ∧ w8.cell? ⟨g, 2, none⟩ = some (.int .i64 clo) ∧ w8.cell? ⟨gx, 2, none⟩ = some (.int .i64 x.f2) ∧ w8.cell? ⟨gx, 4, none⟩ = some (.int .i64 x.f4) := ⟨keepB hb8' b0, keepB hb8' b1, keepB hb8' b2, keepB hb8' z2, keepB hb8' z4⟩; have HN8 := Lib.hid (HNB.out.belowS hb8'); have t0 := HN8.out.cell (j := 0) rfl; have t1 := HN8.out.cell (j := 1) rfl; have t2 := HN8.out.cell (j := 2) rfl; have ft0 := HN8.out.free 0; have ft1 := HN8.out.free 1; have ft2 := HN8.out.free 2) | fail)
            rename_i hHeld_
            clear hHeld_ hS hkd t0 t1 t2 ft0 ft1 ft2 b0 b1 b2 z2 z4
            have hbw := HBW.out.size
            have hb8s := hb8'.size
            have HO9 := Lib.hid ((HO.out.below hb8').put3 HN8.out hgn (.int .i64 d1) (.slice Ad nd cd) (.int .i64 d3))
            have HN9 := Lib.hid ((HN.out.below hb8').take2 (acc' := d1) (clo' := d3) hnd hRd (show w.heap.size ≤ _ from hbw))
            have HB9 : Hid (Below w.heap.size w (((w8.setCell ⟨gn, 0, none⟩ (.int .i64 d1)).setCell ⟨gn, 1, none⟩ (.slice Ad nd cd)).setCell ⟨gn, 2, none⟩ (.int .i64 d3))) := Lib.hid (res_below (Below.trans HBW.out (hb8'.mono hbw)) (by have := HNG.out; have := HLG.out; omega) _ _ _)
            have HND := Lib.hid hnd
            have hnd2 : nd ≤ 210 := by omega
            clear hRd hb8 hb8' hbw hb8s HN8 HNB HCL hdl2
            generalize (((w8.setCell ⟨gn, 0, none⟩ (.int .i64 d1)).setCell ⟨gn, 1, none⟩ (.slice Ad nd cd)).setCell ⟨gn, 2, none⟩ (.int .i64 d3)) = v4 at *
            clear w8
            have b1 := HO9.out.2.2.1.cell (j := 1) rfl
            have t1 := HN9.out.2.2.1.cell (j := 1) rfl
            obtain ⟨av, hav⟩ : ∃ a : Int, (nd : Int) - (nb : Int) = a := ⟨_, rfl⟩
            have hwa : IntKind.i64.wrap ((nd : Int) - (nb : Int)) = av := by rw [IntWalk.i64_in _ (by omega), hav]
            have HAV := Lib.hid hav
            clear hav
            have HRR : Hid ((d4 = 0 ∧ d1 = (N : Int) ∧ (nb : Int) = (nb : Int) ∧ (av : Int) = (dl.length : Int) - (nb : Int) ∧ Keep (N : Int) clo ps d3 dl) ∨ (d4 = 240 ∧ d1 = 0 ∧ dl = [] ∧ d3 = 0)) := Lib.hid (by
              rcases HDK.out with h | h
              · exact .inl ⟨h.1, h.2.1, rfl, by rw [HND.out, HAV.out], h.2.2⟩
              · simp only [Prod.mk.injEq] at h
                exact .inr ⟨h.2.2.2, h.1, h.2.1, h.2.2.1⟩)
            clear hnd
            go_wp2
            go_meet
            case rel => (repeat apply Exists.intro); exact ⟨rfl, rfl, rfl, HN9, HO9, HB9, Lib.hid (by rcases HRR.out with ⟨h1, h2, _, h4, h5⟩ | h; exact .inl ⟨h1, h2, rfl, h4, h5⟩; exact .inr h)⟩
        · have eq2 : (qk == 2) = false := beq_eq_false_iff_ne.2 hq2
          by_cases hq3 : qk = 3
          · have eq3 : (qk == 3) = true := beq_iff_eq.2 hq3
            clear hq2 hq3
            as_aux_lemma =>
              obtain ⟨qi, hqi⟩ : ∃ q, pk x.f1 13 = q := ⟨_, rfl⟩
              have HQI := Lib.hid hqi
              clear hqi
              obtain ⟨rD, hrD⟩ : ∃ r, closeF (N : Int) ps clo qi = r := ⟨_, rfl⟩
              have hdk := close_keep (N : Int) clo ps qi HV.out _ hrD
              have hdl := closeF_len _ _ _ _ _ hrD
              obtain ⟨d1, dl, d3, d4⟩ := rD
              have HRD := Lib.hid hrD
              have HDK := Lib.hid hdk
              dsimp only at hdl
              clear hrD hdk
              have hdl2 : dl.length ≤ 210 := by have := HO.out.1; omega
              clear hdl
              have HCL : Hid (∀ V, Below v3.heap.size v3 V → Calls Try.prog 17 #[.agg #[.int .i64 (N : Int), .slice B nb cb, .int .i64 clo], .int .i64 qi] V fun e w' => ∃ (A' : Option Addr) (c' n' : Nat), dl.length = n' ∧ n' ≤ c' ∧ e = .returned (.tuple #[.agg #[.int .i64 d1, .slice A' n' c', .int .i64 d3], .int .i64 d4]) ∧ Kd.R k27 27 w' V.heap.size (fun _ => True) (.slice A' n' c') dl ∧ Below V.heap.size V w') := Lib.hid fun V hV => bClose (N : Int) clo B nb cb ps HO.out.1 qi (d1, dl, d3, d4) HRD.out V (HO.out.below hV).reads HO.out.2.1 (by omega)
              have HNB := Lib.hid HN.out.2.2.1
              have b0 := HO.out.2.2.1.cell (j := 0) rfl
              have b1 := HO.out.2.2.1.cell (j := 1) rfl
              have b2 := HO.out.2.2.1.cell (j := 2) rfl
              have z1 := HX.out.cell (j := 1) rfl
              have hS : v3.drew.cell? ⟨g, 0, none⟩ = some (.int .i64 (N : Int)) ∧ v3.drew.cell? ⟨g, 1, none⟩ = some (.slice B nb cb) ∧ v3.drew.cell? ⟨g, 2, none⟩ = some (.int .i64 clo) ∧ v3.drew.cell? ⟨gx, 1, none⟩ = some (.int .i64 x.f1) := ⟨b0, b1, b2, z1⟩
              go_upto_region 19 with (fail)
              go_region_held3 (fun w' => w'.cell? ⟨g, 0, none⟩ = some (.int .i64 (N : Int)) ∧ w'.cell? ⟨g, 1, none⟩ = some (.slice B nb cb) ∧ w'.cell? ⟨g, 2, none⟩ = some (.int .i64 clo) ∧ w'.cell? ⟨gx, 1, none⟩ = some (.int .i64 x.f1)) (first | (with_reducible exact hS) | (with_reducible exact hkd) | (refine ⟨?_, ?_, ?_, ?_⟩ <;> (repeat (first | with_reducible exact b0 | with_reducible exact b1 | with_reducible exact b2 | with_reducible exact z1 | with_reducible refine c_drewN ?_ | with_reducible refine c_drew ?_ | with_reducible refine far_set hgn ?_ | with_reducible refine far_set hxn ?_ | with_reducible exact hkd.1 | with_reducible exact hkd.2.1 | with_reducible exact hkd.2.2.1 | with_reducible exact hkd.2.2.2))) | fail) (first | (go_at_call 14; (with_reducible refine (lpick_is x.f1 13 I1.out (by omega) qi HQI.out _).mono ?_); rintro e w5 ⟨rfl, hw5⟩; obtain rfl := hw5.symm; clear hw5) | (go_at_call 17; (with_reducible refine (HCL.out _ ?_).mono ?_); (first | exact below_dN (Below.refl _ _) _ | exact below_drew1 (Below.refl _ _)); rintro e w8 ⟨Ad, cd, nd, hnd, hcd, rfl, hRd, hb8⟩; have hb8' : Below v3.heap.size v3 w8 := Below.trans (below_dN (Below.refl _ _) 1) hb8; have hkd : w8.cell? ⟨g, 0, none⟩ = some (.int .i64 (N : Int)) ∧ w8.cell? ⟨g, 1, none⟩ = some (.slice B nb cb) ∧ w8.cell? ⟨g, 2, none⟩ = some (.int .i64 clo) ∧ w8.cell? ⟨gx, 1, none⟩ = some (.int .i64 x.f1) := ⟨keepB hb8' b0, keepB hb8' b1, keepB hb8' b2, keepB hb8' z1⟩; have HN8 := Lib.hid (HNB.out.belowS hb8'); have t0 := HN8.out.cell (j := 0) rfl; have t1 := HN8.out.cell (j := 1) rfl; have t2 := HN8.out.cell (j := 2) rfl; have ft0 := HN8.out.free 0; have ft1 := HN8.out.free 1; have ft2 := HN8.out.free 2) | fail)
              rename_i hHeld_
              clear hHeld_ hS hkd t0 t1 t2 ft0 ft1 ft2 b0 b1 b2 z1
              have hbw := HBW.out.size
              have hb8s := hb8'.size
              have HO9 := Lib.hid ((HO.out.below hb8').put3 HN8.out hgn (.int .i64 d1) (.slice Ad nd cd) (.int .i64 d3))
              have HN9 := Lib.hid ((HN.out.below hb8').take2 (acc' := d1) (clo' := d3) hnd hRd (show w.heap.size ≤ _ from hbw))
              have HB9 : Hid (Below w.heap.size w (((w8.setCell ⟨gn, 0, none⟩ (.int .i64 d1)).setCell ⟨gn, 1, none⟩ (.slice Ad nd cd)).setCell ⟨gn, 2, none⟩ (.int .i64 d3))) := Lib.hid (res_below (Below.trans HBW.out (hb8'.mono hbw)) (by have := HNG.out; have := HLG.out; omega) _ _ _)
              have HND := Lib.hid hnd
              have hnd2 : nd ≤ 210 := by omega
              clear hRd hb8 hb8' hbw hb8s HN8 HNB HCL hdl2
              generalize (((w8.setCell ⟨gn, 0, none⟩ (.int .i64 d1)).setCell ⟨gn, 1, none⟩ (.slice Ad nd cd)).setCell ⟨gn, 2, none⟩ (.int .i64 d3)) = v4 at *
              clear w8
              have b1 := HO9.out.2.2.1.cell (j := 1) rfl
              have t1 := HN9.out.2.2.1.cell (j := 1) rfl
              have HRR : Hid ((d4 = 0 ∧ d1 = (N : Int) ∧ (nb : Int) = (nb : Int) ∧ (0 : Int) = (dl.length : Int) - (nb : Int) ∧ Keep (N : Int) clo ps d3 dl) ∨ (d4 = 240 ∧ d1 = 0 ∧ dl = [] ∧ d3 = 0)) := Lib.hid (by
                rcases HDK.out with h | h
                · exact .inl ⟨h.1, h.2.1, rfl, by rw [h.2.2.1, HO.out.1]; omega, h.2.2.2⟩
                · simp only [Prod.mk.injEq] at h
                  exact .inr ⟨h.2.2.2, h.1, h.2.1, h.2.2.1⟩)
              clear hnd
              go_wp2
              go_meet
              case rel => (repeat apply Exists.intro); exact ⟨rfl, rfl, rfl, HN9, HO9, HB9, Lib.hid (by rcases HRR.out with ⟨h1, h2, _, h4, h5⟩ | h; exact .inl ⟨h1, h2, rfl, h4, h5⟩; exact .inr h)⟩
          · have eq3 : (qk == 3) = false := beq_eq_false_iff_ne.2 hq3
            clear hq2 hq3
            have hrr : (r5 = 0 ∧ r1 = (N : Int) ∧ r4 = (nb : Int) ∧ (1 : Int) = (rl.length : Int) - (nb : Int) ∧ Keep (N : Int) clo ps r3 rl) ∨ (r5 = 240 ∧ r1 = 0 ∧ rl = [] ∧ r3 = 0) := by
              rcases HPK.out with ⟨h1, h2, h3, h4, h5⟩ | h
              · exact .inl ⟨h1, h2, by rw [h3, HO.out.1], by rw [h4, HO.out.1]; omega, h5⟩
              · simp only [Prod.mk.injEq] at h
                exact .inr ⟨h.2.2.2.2, h.1, h.2.1, h.2.2.1⟩
            have HRR := Lib.hid hrr
            clear hrr
            go_wp2
            go_meet
            case rel => (repeat apply Exists.intro); exact ⟨rfl, rfl, rfl, HN, HO, HBW, HRR⟩
      case rest =>
        clear HN HO HBW HX HRP HPK HQK
        obtain ⟨nv, ev, av, r1, r3, rl, An, nx, cx, rfl, rfl, rfl, HN, HO, HBW, HRR⟩ := hcut
        have hlen := valid_len HV.out
        have hlo := HO.out.1
        have hln := HN.out.1
        rcases HRR.out with ⟨rfl, rfl, rfl, hav, hkeep⟩ | ⟨rfl, rfl, rfl, rfl⟩
        · as_aux_lemma =>
            have hnx : nx ≤ 202 := by have := hkeep.ge; omega
            have hle := hkeep.le
            have hge := hkeep.ge
            have hcl := hkeep.cl
            have ha0 : decide (av < 0) = false := decide_eq_false (by omega)
            have ha2 : decide (2 < av) = false := decide_eq_false (by omega)
            have hc3 : decide (r3 < clo) = false := decide_eq_false (by omega)
            have HWN : Hid (IntKind.i64.wrap ((nb : Int) + av) = (nx : Int)) := Lib.hid (by rw [IntWalk.i64_in _ (by omega)]; omega)
            have hbc : (nb : Int) ≤ (cx : Int) := by have := HN.out.2.1; omega
            have hbx : (nb : Int) ≤ (nx : Int) := by omega
            have HK := Lib.hid hkeep
            have hCt : Kd.C k27 wc An nb ps := by
              have h := HN.out.reads
              have hn := HN.out.1
              subst hn
              have h2 := Kd.C_take (m := nb) h (by omega)
              have h3 := hkeep.pre
              rw [hlo] at h3
              rw [h3, hlo] at h2
              exact h2
            have HCT := Lib.hid hCt
            clear hCt hkeep hle hge hcl hav hlo hln hlen
            have HS1 : Hid (∀ X, Below wc.heap.size wc X → Calls Try.prog 11 #[.agg #[.int .i64 (N : Int), .slice An nx cx, .int .i64 r3]] X fun e w' => e = .returned (.bool true) ∧ Below wc.heap.size wc w') := Lib.hid fun X hX => (bValid_walk (N : Int) r3 An nx cx rl HN.out.1 true HK.out.v X (Kd.C_below HN.out.reads hX) HN.out.2.1 (by omega)).mono fun e w' ⟨he, hb⟩ => ⟨he, Below.trans hX (hb.mono hX.size)⟩
            have HS2 : Hid (∀ X, Below wc.heap.size wc X → Calls Try.prog 26 #[.slice An nb cx, .slice B nb cb] X fun e w' => e = .returned (.bool true) ∧ Below wc.heap.size wc w') := Lib.hid fun X hX => (rSameP_walk nb (by omega) An B cx cb ps HO.out.1 X (Kd.C_below HCT.out hX) (by have := HN.out.2.1; omega) (Kd.C_below HO.out.reads hX) HO.out.2.1).mono fun e w' ⟨he, hb⟩ => ⟨he, Below.trans hX (hb.mono hX.size)⟩
            have b0 := HO.out.2.2.1.cell (j := 0) rfl
            have b1 := HO.out.2.2.1.cell (j := 1) rfl
            have b2 := HO.out.2.2.1.cell (j := 2) rfl
            have t0 := HN.out.2.2.1.cell (j := 0) rfl
            have t1 := HN.out.2.2.1.cell (j := 1) rfl
            have t2 := HN.out.2.2.1.cell (j := 2) rfl
            go_upto_region 25 with (fail)
            have hwn := HWN.out
            have hS : wc.drew.cell? ⟨g, 0, none⟩ = some (.int .i64 (N : Int)) ∧ wc.drew.cell? ⟨g, 1, none⟩ = some (.slice B nb cb) ∧ wc.drew.cell? ⟨g, 2, none⟩ = some (.int .i64 clo) ∧ wc.drew.cell? ⟨gn, 0, none⟩ = some (.int .i64 (N : Int)) ∧ wc.drew.cell? ⟨gn, 1, none⟩ = some (.slice An nx cx) ∧ wc.drew.cell? ⟨gn, 2, none⟩ = some (.int .i64 r3) := ⟨b0, b1, b2, t0, t1, t2⟩
            have hbd : Below wc.heap.size wc wc.drew := below_drew1 (Below.refl _ _)
            refine start_ (n := 55) (S := fun w' => w'.cell? ⟨g, 0, none⟩ = some (.int .i64 (N : Int)) ∧ w'.cell? ⟨g, 1, none⟩ = some (.slice B nb cb) ∧ w'.cell? ⟨g, 2, none⟩ = some (.int .i64 clo) ∧ w'.cell? ⟨gn, 0, none⟩ = some (.int .i64 (N : Int)) ∧ w'.cell? ⟨gn, 1, none⟩ = some (.slice An nx cx) ∧ w'.cell? ⟨gn, 2, none⟩ = some (.int .i64 r3)) (ds := []) #[false, false, false, false, false, false, false, false, false, false, false, false, false, false, false, false, false, false, false, false, false, false, false, false, false, false, false, false, false, false, false, false, false, false, false, false, false, false, false, false, false, false, false, false, false, false, false, false, false, false, false, false, false, false, false] (by kernel_rfl) rfl rfl hS (fun hHeld => ?_)
            generalize wc.drew = wcd at *
            refine take_ (i := 0) (N := (some 117)) (v := ?_) (a' := ?_) #[true, false, false, false, false, false, false, false, false, false, false, false, false, false, false, false, false, false, false, false, false, false, false, false, false, false, false, false, false, false, false, false, false, false, false, false, false, false, false, false, false, false, false, false, false, false, false, false, false, false, false, false, false, false, false] rfl rfl (by kernel_rfl) (fun _ _ _ h => h) (Or.inl ⟨by rfl, ?_⟩) hHeld ?_ ?_
            rotate_left
            · rintro w' ⟨y0, y1, y2, y3, y4, y5⟩
              go_simp
              with_reducible rfl
            rotate_left
            · simp only [Act.put, List.setIfInBounds_toArray, List.set_cons_zero, List.set_cons_succ, i64_w, i32_w]
              rfl
            refine one_ (i := 1) (N := (some 118)) #[true, true, false, false, false, false, false, false, false, false, false, false, false, false, false, false, false, false, false, false, false, false, false, false, false, false, false, false, false, false, false, false, false, false, false, false, false, false, false, false, false, false, false, false, false, false, false, false, false, false, false, false, false, false, false] rfl rfl (by kernel_rfl) (by decide) (fun K hK => ?_)
            refine goes_ Try.func11 (by kernel_rfl) rfl #[.agg #[.int .i64 (N : Int), .slice An nx cx, .int .i64 r3]] (by rfl) rfl rfl (by (try simp only [List.map_toArray, List.map_cons, List.map_nil]); first | done | rfl) ?_
            refine (HS1.out _ hbd).mono ?_
            rintro e w5 ⟨rfl, hbb⟩
            refine ⟨_, rfl, ?_⟩
            refine hK.out _ _ ⟨keepB hbb b0, keepB hbb b1, keepB hbb b2, keepB hbb t0, keepB hbb t1, keepB hbb t2⟩ (fun hHeld => ?_)
            clear hK K
            refine norm_ (a' := ?_) ?_ ?_
            rotate_left
            · show Act.put _ (some 118) _ = _
              simp only [Act.put, List.setIfInBounds_toArray, List.set_cons_zero, List.set_cons_succ, i64_w, i32_w]
              rfl
            refine pure_ (i := 2) (N := (some 119)) (v := ?_) (a' := ?_) #[true, true, true, false, false, false, false, false, false, false, false, false, false, false, false, false, false, false, false, false, false, false, false, false, false, false, false, false, false, false, false, false, false, false, false, false, false, false, false, false, false, false, false, false, false, false, false, false, false, false, false, false, false, false, false] rfl rfl (by kernel_rfl) (fun _ _ _ h => h) (Or.inl ⟨by rfl, ?_⟩) ?_ ?_
            rotate_left
            · intro w'
              go_simp
              with_reducible rfl
            rotate_left
            · simp only [Act.put, List.setIfInBounds_toArray, List.set_cons_zero, List.set_cons_succ, i64_w, i32_w]
              rfl
            refine pure_ (i := 3) (N := (some 120)) (v := ?_) (a' := ?_) #[true, true, true, true, false, false, false, false, false, false, false, false, false, false, false, false, false, false, false, false, false, false, false, false, false, false, false, false, false, false, false, false, false, false, false, false, false, false, false, false, false, false, false, false, false, false, false, false, false, false, false, false, false, false, false] rfl rfl (by kernel_rfl) (fun _ _ _ h => h) (Or.inl ⟨by rfl, ?_⟩) ?_ ?_
            rotate_left
            · intro w'
              go_simp
              with_reducible rfl
            rotate_left
            · simp only [Act.put, List.setIfInBounds_toArray, List.set_cons_zero, List.set_cons_succ, i64_w, i32_w]
              rfl
            refine pure_ (i := 4) (N := (some 121)) (v := ?_) (a' := ?_) #[true, true, true, true, true, false, false, false, false, false, false, false, false, false, false, false, false, false, false, false, false, false, false, false, false, false, false, false, false, false, false, false, false, false, false, false, false, false, false, false, false, false, false, false, false, false, false, false, false, false, false, false, false, false, false] rfl rfl (by kernel_rfl) (fun _ _ _ h => h) (Or.inl ⟨by rfl, ?_⟩) ?_ ?_
            rotate_left
            · intro w'
              go_simp
              with_reducible rfl
            rotate_left
            · simp only [Act.put, List.setIfInBounds_toArray, List.set_cons_zero, List.set_cons_succ, i64_w, i32_w]
              rfl
            refine pure_ (i := 5) (N := (some 122)) (v := ?_) (a' := ?_) #[true, true, true, true, true, true, false, false, false, false, false, false, false, false, false, false, false, false, false, false, false, false, false, false, false, false, false, false, false, false, false, false, false, false, false, false, false, false, false, false, false, false, false, false, false, false, false, false, false, false, false, false, false, false, false] rfl rfl (by kernel_rfl) (fun _ _ _ h => h) (Or.inl ⟨by rfl, ?_⟩) ?_ ?_
            rotate_left
            · intro w'
              go_simp
              with_reducible rfl
            rotate_left
            · simp only [Act.put, List.setIfInBounds_toArray, List.set_cons_zero, List.set_cons_succ, i64_w, i32_w]
              rfl
            refine take_ (i := 6) (N := (some 123)) (v := ?_) (a' := ?_) #[true, true, true, true, true, true, true, false, false, false, false, false, false, false, false, false, false, false, false, false, false, false, false, false, false, false, false, false, false, false, false, false, false, false, false, false, false, false, false, false, false, false, false, false, false, false, false, false, false, false, false, false, false, false, false] rfl rfl (by kernel_rfl) (fun _ _ _ h => h) (Or.inl ⟨by rfl, ?_⟩) hHeld ?_ ?_
            rotate_left
            · rintro w' ⟨y0, y1, y2, y3, y4, y5⟩
              go_simp
              with_reducible rfl
            rotate_left
            · simp only [Act.put, List.setIfInBounds_toArray, List.set_cons_zero, List.set_cons_succ, i64_w, i32_w]
              rfl
            refine pure_ (i := 7) (N := (some 124)) (v := ?_) (a' := ?_) #[true, true, true, true, true, true, true, true, false, false, false, false, false, false, false, false, false, false, false, false, false, false, false, false, false, false, false, false, false, false, false, false, false, false, false, false, false, false, false, false, false, false, false, false, false, false, false, false, false, false, false, false, false, false, false] rfl rfl (by kernel_rfl) (fun _ _ _ h => h) (Or.inl ⟨by rfl, ?_⟩) ?_ ?_
            rotate_left
            · intro w'
              go_simp
              with_reducible rfl
            rotate_left
            · simp only [Act.put, List.setIfInBounds_toArray, List.set_cons_zero, List.set_cons_succ, i64_w, i32_w]
              rfl
            refine pure_ (i := 8) (N := (some 125)) (v := ?_) (a' := ?_) #[true, true, true, true, true, true, true, true, true, false, false, false, false, false, false, false, false, false, false, false, false, false, false, false, false, false, false, false, false, false, false, false, false, false, false, false, false, false, false, false, false, false, false, false, false, false, false, false, false, false, false, false, false, false, false] rfl rfl (by kernel_rfl) (fun _ _ _ h => h) (Or.inl ⟨by rfl, ?_⟩) ?_ ?_
            rotate_left
            · intro w'
              go_simp
              with_reducible rfl
            rotate_left
            · simp only [Act.put, List.setIfInBounds_toArray, List.set_cons_zero, List.set_cons_succ, i64_w, i32_w]
              rfl
            refine pure_ (i := 9) (N := (some 126)) (v := ?_) (a' := ?_) #[true, true, true, true, true, true, true, true, true, true, false, false, false, false, false, false, false, false, false, false, false, false, false, false, false, false, false, false, false, false, false, false, false, false, false, false, false, false, false, false, false, false, false, false, false, false, false, false, false, false, false, false, false, false, false] rfl rfl (by kernel_rfl) (fun _ _ _ h => h) (Or.inl ⟨by rfl, ?_⟩) ?_ ?_
            rotate_left
            · intro w'
              go_simp
              with_reducible rfl
            rotate_left
            · simp only [Act.put, List.setIfInBounds_toArray, List.set_cons_zero, List.set_cons_succ, i64_w, i32_w]
              rfl
            refine pure_ (i := 10) (N := (some 127)) (v := ?_) (a' := ?_) #[true, true, true, true, true, true, true, true, true, true, true, false, false, false, false, false, false, false, false, false, false, false, false, false, false, false, false, false, false, false, false, false, false, false, false, false, false, false, false, false, false, false, false, false, false, false, false, false, false, false, false, false, false, false, false] rfl rfl (by kernel_rfl) (fun _ _ _ h => h) (Or.inl ⟨by rfl, ?_⟩) ?_ ?_
            rotate_left
            · intro w'
              go_simp
              with_reducible rfl
            rotate_left
            · simp only [Act.put, List.setIfInBounds_toArray, List.set_cons_zero, List.set_cons_succ, i64_w, i32_w]
              rfl
            refine pure_ (i := 11) (N := (some 128)) (v := ?_) (a' := ?_) #[true, true, true, true, true, true, true, true, true, true, true, true, false, false, false, false, false, false, false, false, false, false, false, false, false, false, false, false, false, false, false, false, false, false, false, false, false, false, false, false, false, false, false, false, false, false, false, false, false, false, false, false, false, false, false] rfl rfl (by kernel_rfl) (fun _ _ _ h => h) (Or.inl ⟨by rfl, ?_⟩) ?_ ?_
            rotate_left
            · intro w'
              go_simp
              with_reducible rfl
            rotate_left
            · simp only [Act.put, List.setIfInBounds_toArray, List.set_cons_zero, List.set_cons_succ, i64_w, i32_w]
              rfl
            refine take_ (i := 12) (N := (some 129)) (v := ?_) (a' := ?_) #[true, true, true, true, true, true, true, true, true, true, true, true, true, false, false, false, false, false, false, false, false, false, false, false, false, false, false, false, false, false, false, false, false, false, false, false, false, false, false, false, false, false, false, false, false, false, false, false, false, false, false, false, false, false, false] rfl rfl (by kernel_rfl) (fun _ _ _ h => h) (Or.inl ⟨by rfl, ?_⟩) hHeld ?_ ?_
            rotate_left
            · rintro w' ⟨y0, y1, y2, y3, y4, y5⟩
              go_simp
              with_reducible rfl
            rotate_left
            · simp only [Act.put, List.setIfInBounds_toArray, List.set_cons_zero, List.set_cons_succ, i64_w, i32_w]
              rfl
            refine pure_ (i := 13) (N := (some 130)) (v := ?_) (a' := ?_) #[true, true, true, true, true, true, true, true, true, true, true, true, true, true, false, false, false, false, false, false, false, false, false, false, false, false, false, false, false, false, false, false, false, false, false, false, false, false, false, false, false, false, false, false, false, false, false, false, false, false, false, false, false, false, false] rfl rfl (by kernel_rfl) (fun _ _ _ h => h) (Or.inl ⟨by rfl, ?_⟩) ?_ ?_
            rotate_left
            · intro w'
              go_simp
              with_reducible rfl
            rotate_left
            · simp only [Act.put, List.setIfInBounds_toArray, List.set_cons_zero, List.set_cons_succ, i64_w, i32_w]
              rfl
            refine pure_ (i := 14) (N := (some 131)) (v := ?_) (a' := ?_) #[true, true, true, true, true, true, true, true, true, true, true, true, true, true, true, false, false, false, false, false, false, false, false, false, false, false, false, false, false, false, false, false, false, false, false, false, false, false, false, false, false, false, false, false, false, false, false, false, false, false, false, false, false, false, false] rfl rfl (by kernel_rfl) (fun _ _ _ h => h) (Or.inl ⟨by rfl, ?_⟩) ?_ ?_
            rotate_left
            · intro w'
              go_simp
              with_reducible rfl
            rotate_left
            · simp only [Act.put, List.setIfInBounds_toArray, List.set_cons_zero, List.set_cons_succ, i64_w, i32_w]
              rfl
            refine take_ (i := 15) (N := (some 132)) (v := ?_) (a' := ?_) #[true, true, true, true, true, true, true, true, true, true, true, true, true, true, true, true, false, false, false, false, false, false, false, false, false, false, false, false, false, false, false, false, false, false, false, false, false, false, false, false, false, false, false, false, false, false, false, false, false, false, false, false, false, false, false] rfl rfl (by kernel_rfl) (fun _ _ _ h => h) (Or.inl ⟨by rfl, ?_⟩) hHeld ?_ ?_
            rotate_left
            · rintro w' ⟨y0, y1, y2, y3, y4, y5⟩
              go_simp
              with_reducible rfl
            rotate_left
            · simp only [Act.put, List.setIfInBounds_toArray, List.set_cons_zero, List.set_cons_succ, i64_w, i32_w]
              rfl
            refine pure_ (i := 16) (N := (some 133)) (v := ?_) (a' := ?_) #[true, true, true, true, true, true, true, true, true, true, true, true, true, true, true, true, true, false, false, false, false, false, false, false, false, false, false, false, false, false, false, false, false, false, false, false, false, false, false, false, false, false, false, false, false, false, false, false, false, false, false, false, false, false, false] rfl rfl (by kernel_rfl) (fun _ _ _ h => h) (Or.inl ⟨by rfl, ?_⟩) ?_ ?_
            rotate_left
            · intro w'
              go_simp
              with_reducible rfl
            rotate_left
            · simp only [Act.put, List.setIfInBounds_toArray, List.set_cons_zero, List.set_cons_succ, i64_w, i32_w]
              rfl
            refine pure_ (i := 17) (N := (some 134)) (v := ?_) (a' := ?_) #[true, true, true, true, true, true, true, true, true, true, true, true, true, true, true, true, true, true, false, false, false, false, false, false, false, false, false, false, false, false, false, false, false, false, false, false, false, false, false, false, false, false, false, false, false, false, false, false, false, false, false, false, false, false, false] rfl rfl (by kernel_rfl) (fun _ _ _ h => h) (Or.inl ⟨by rfl, ?_⟩) ?_ ?_
            rotate_left
            · intro w'
              go_simp
              with_reducible rfl
            rotate_left
            · simp only [Act.put, List.setIfInBounds_toArray, List.set_cons_zero, List.set_cons_succ, i64_w, i32_w]
              rfl
            refine pure_ (i := 18) (N := (some 135)) (v := ?_) (a' := ?_) #[true, true, true, true, true, true, true, true, true, true, true, true, true, true, true, true, true, true, true, false, false, false, false, false, false, false, false, false, false, false, false, false, false, false, false, false, false, false, false, false, false, false, false, false, false, false, false, false, false, false, false, false, false, false, false] rfl rfl (by kernel_rfl) (fun _ _ _ h => h) (Or.inl ⟨by rfl, ?_⟩) ?_ ?_
            rotate_left
            · intro w'
              go_simp
              with_reducible rfl
            rotate_left
            · simp only [Act.put, List.setIfInBounds_toArray, List.set_cons_zero, List.set_cons_succ, i64_w, i32_w]
              rfl
            refine pure_ (i := 19) (N := (some 136)) (v := ?_) (a' := ?_) #[true, true, true, true, true, true, true, true, true, true, true, true, true, true, true, true, true, true, true, true, false, false, false, false, false, false, false, false, false, false, false, false, false, false, false, false, false, false, false, false, false, false, false, false, false, false, false, false, false, false, false, false, false, false, false] rfl rfl (by kernel_rfl) (fun _ _ _ h => h) (Or.inl ⟨by rfl, ?_⟩) ?_ ?_
            rotate_left
            · intro w'
              go_simp
              with_reducible rfl
            rotate_left
            · simp only [Act.put, List.setIfInBounds_toArray, List.set_cons_zero, List.set_cons_succ, i64_w, i32_w]
              rfl
            refine pure_ (i := 20) (N := (some 137)) (v := ?_) (a' := ?_) #[true, true, true, true, true, true, true, true, true, true, true, true, true, true, true, true, true, true, true, true, true, false, false, false, false, false, false, false, false, false, false, false, false, false, false, false, false, false, false, false, false, false, false, false, false, false, false, false, false, false, false, false, false, false, false] rfl rfl (by kernel_rfl) (fun _ _ _ h => h) (Or.inl ⟨by rfl, ?_⟩) ?_ ?_
            rotate_left
            · intro w'
              go_simp
              with_reducible rfl
            rotate_left
            · simp only [Act.put, List.setIfInBounds_toArray, List.set_cons_zero, List.set_cons_succ, i64_w, i32_w]
              rfl
            refine pure_ (i := 21) (N := (some 138)) (v := ?_) (a' := ?_) #[true, true, true, true, true, true, true, true, true, true, true, true, true, true, true, true, true, true, true, true, true, true, false, false, false, false, false, false, false, false, false, false, false, false, false, false, false, false, false, false, false, false, false, false, false, false, false, false, false, false, false, false, false, false, false] rfl rfl (by kernel_rfl) (fun _ _ _ h => h) (Or.inl ⟨by rfl, ?_⟩) ?_ ?_
            rotate_left
            · intro w'
              go_simp
              with_reducible rfl
            rotate_left
            · simp only [Act.put, List.setIfInBounds_toArray, List.set_cons_zero, List.set_cons_succ, i64_w, i32_w]
              rfl
            refine pure_ (i := 22) (N := (some 139)) (v := ?_) (a' := ?_) #[true, true, true, true, true, true, true, true, true, true, true, true, true, true, true, true, true, true, true, true, true, true, true, false, false, false, false, false, false, false, false, false, false, false, false, false, false, false, false, false, false, false, false, false, false, false, false, false, false, false, false, false, false, false, false] rfl rfl (by kernel_rfl) (fun _ _ _ h => h) (Or.inl ⟨by rfl, ?_⟩) ?_ ?_
            rotate_left
            · intro w'
              go_simp
              with_reducible rfl
            rotate_left
            · simp only [Act.put, List.setIfInBounds_toArray, List.set_cons_zero, List.set_cons_succ, i64_w, i32_w]
              rfl
            refine pure_ (i := 23) (N := (some 140)) (v := ?_) (a' := ?_) #[true, true, true, true, true, true, true, true, true, true, true, true, true, true, true, true, true, true, true, true, true, true, true, true, false, false, false, false, false, false, false, false, false, false, false, false, false, false, false, false, false, false, false, false, false, false, false, false, false, false, false, false, false, false, false] rfl rfl (by kernel_rfl) (fun _ _ _ h => h) (Or.inl ⟨by rfl, ?_⟩) ?_ ?_
            rotate_left
            · intro w'
              go_simp
              with_reducible rfl
            rotate_left
            · simp only [Act.put, List.setIfInBounds_toArray, List.set_cons_zero, List.set_cons_succ, i64_w, i32_w]
              rfl
            refine pure_ (i := 24) (N := (some 141)) (v := ?_) (a' := ?_) #[true, true, true, true, true, true, true, true, true, true, true, true, true, true, true, true, true, true, true, true, true, true, true, true, true, false, false, false, false, false, false, false, false, false, false, false, false, false, false, false, false, false, false, false, false, false, false, false, false, false, false, false, false, false, false] rfl rfl (by kernel_rfl) (fun _ _ _ h => h) (Or.inl ⟨by rfl, ?_⟩) ?_ ?_
            rotate_left
            · intro w'
              go_simp
              with_reducible rfl
            rotate_left
            · simp only [Act.put, List.setIfInBounds_toArray, List.set_cons_zero, List.set_cons_succ, i64_w, i32_w]
              rfl
            refine pure_ (i := 25) (N := (some 142)) (v := ?_) (a' := ?_) #[true, true, true, true, true, true, true, true, true, true, true, true, true, true, true, true, true, true, true, true, true, true, true, true, true, true, false, false, false, false, false, false, false, false, false, false, false, false, false, false, false, false, false, false, false, false, false, false, false, false, false, false, false, false, false] rfl rfl (by kernel_rfl) (fun _ _ _ h => h) (Or.inl ⟨by rfl, ?_⟩) ?_ ?_
            rotate_left
            · intro w'
              go_simp
              with_reducible rfl
            rotate_left
            · simp only [Act.put, List.setIfInBounds_toArray, List.set_cons_zero, List.set_cons_succ, i64_w, i32_w]
              rfl
            refine pure_ (i := 26) (N := (some 143)) (v := ?_) (a' := ?_) #[true, true, true, true, true, true, true, true, true, true, true, true, true, true, true, true, true, true, true, true, true, true, true, true, true, true, true, false, false, false, false, false, false, false, false, false, false, false, false, false, false, false, false, false, false, false, false, false, false, false, false, false, false, false, false] rfl rfl (by kernel_rfl) (fun _ _ _ h => h) (Or.inl ⟨by rfl, ?_⟩) ?_ ?_
            rotate_left
            · intro w'
              go_simp
              with_reducible rfl
            rotate_left
            · simp only [Act.put, List.setIfInBounds_toArray, List.set_cons_zero, List.set_cons_succ, i64_w, i32_w]
              rfl
            refine pure_ (i := 27) (N := (some 144)) (v := ?_) (a' := ?_) #[true, true, true, true, true, true, true, true, true, true, true, true, true, true, true, true, true, true, true, true, true, true, true, true, true, true, true, true, false, false, false, false, false, false, false, false, false, false, false, false, false, false, false, false, false, false, false, false, false, false, false, false, false, false, false] rfl rfl (by kernel_rfl) (fun _ _ _ h => h) (Or.inl ⟨by rfl, ?_⟩) ?_ ?_
            rotate_left
            · intro w'
              go_simp
              with_reducible rfl
            rotate_left
            · simp only [Act.put, List.setIfInBounds_toArray, List.set_cons_zero, List.set_cons_succ, i64_w, i32_w]
              rfl
            refine pure_ (i := 28) (N := (some 145)) (v := ?_) (a' := ?_) #[true, true, true, true, true, true, true, true, true, true, true, true, true, true, true, true, true, true, true, true, true, true, true, true, true, true, true, true, true, false, false, false, false, false, false, false, false, false, false, false, false, false, false, false, false, false, false, false, false, false, false, false, false, false, false] rfl rfl (by kernel_rfl) (fun _ _ _ h => h) (Or.inl ⟨by rfl, ?_⟩) ?_ ?_
            rotate_left
            · intro w'
              go_simp
              with_reducible rfl
            rotate_left
            · simp only [Act.put, List.setIfInBounds_toArray, List.set_cons_zero, List.set_cons_succ, i64_w, i32_w]
              rfl
            refine pure_ (i := 29) (N := (some 146)) (v := ?_) (a' := ?_) #[true, true, true, true, true, true, true, true, true, true, true, true, true, true, true, true, true, true, true, true, true, true, true, true, true, true, true, true, true, true, false, false, false, false, false, false, false, false, false, false, false, false, false, false, false, false, false, false, false, false, false, false, false, false, false] rfl rfl (by kernel_rfl) (fun _ _ _ h => h) (Or.inl ⟨by rfl, ?_⟩) ?_ ?_
            rotate_left
            · intro w'
              go_simp
              with_reducible rfl
            rotate_left
            · simp only [Act.put, List.setIfInBounds_toArray, List.set_cons_zero, List.set_cons_succ, i64_w, i32_w]
              rfl
            refine pure_ (i := 30) (N := (some 147)) (v := ?_) (a' := ?_) #[true, true, true, true, true, true, true, true, true, true, true, true, true, true, true, true, true, true, true, true, true, true, true, true, true, true, true, true, true, true, true, false, false, false, false, false, false, false, false, false, false, false, false, false, false, false, false, false, false, false, false, false, false, false, false] rfl rfl (by kernel_rfl) (fun _ _ _ h => h) (Or.inl ⟨by rfl, ?_⟩) ?_ ?_
            rotate_left
            · intro w'
              go_simp
              with_reducible rfl
            rotate_left
            · simp only [Act.put, List.setIfInBounds_toArray, List.set_cons_zero, List.set_cons_succ, i64_w, i32_w]
              rfl
            refine take_ (i := 31) (N := (some 148)) (v := ?_) (a' := ?_) #[true, true, true, true, true, true, true, true, true, true, true, true, true, true, true, true, true, true, true, true, true, true, true, true, true, true, true, true, true, true, true, true, false, false, false, false, false, false, false, false, false, false, false, false, false, false, false, false, false, false, false, false, false, false, false] rfl rfl (by kernel_rfl) (fun _ _ _ h => h) (Or.inl ⟨by rfl, ?_⟩) hHeld ?_ ?_
            rotate_left
            · rintro w' ⟨y0, y1, y2, y3, y4, y5⟩
              go_simp
              with_reducible rfl
            rotate_left
            · simp only [Act.put, List.setIfInBounds_toArray, List.set_cons_zero, List.set_cons_succ, i64_w, i32_w]
              rfl
            refine pure_ (i := 32) (N := (some 149)) (v := ?_) (a' := ?_) #[true, true, true, true, true, true, true, true, true, true, true, true, true, true, true, true, true, true, true, true, true, true, true, true, true, true, true, true, true, true, true, true, true, false, false, false, false, false, false, false, false, false, false, false, false, false, false, false, false, false, false, false, false, false, false] rfl rfl (by kernel_rfl) (fun _ _ _ h => h) (Or.inl ⟨by rfl, ?_⟩) ?_ ?_
            rotate_left
            · intro w'
              go_simp
              with_reducible rfl
            rotate_left
            · simp only [Act.put, List.setIfInBounds_toArray, List.set_cons_zero, List.set_cons_succ, i64_w, i32_w]
              rfl
            refine take_ (i := 33) (N := (some 150)) (v := ?_) (a' := ?_) #[true, true, true, true, true, true, true, true, true, true, true, true, true, true, true, true, true, true, true, true, true, true, true, true, true, true, true, true, true, true, true, true, true, true, false, false, false, false, false, false, false, false, false, false, false, false, false, false, false, false, false, false, false, false, false] rfl rfl (by kernel_rfl) (fun _ _ _ h => h) (Or.inl ⟨by rfl, ?_⟩) hHeld ?_ ?_
            rotate_left
            · rintro w' ⟨y0, y1, y2, y3, y4, y5⟩
              go_simp
              with_reducible rfl
            rotate_left
            · simp only [Act.put, List.setIfInBounds_toArray, List.set_cons_zero, List.set_cons_succ, i64_w, i32_w]
              rfl
            refine pure_ (i := 34) (N := (some 151)) (v := ?_) (a' := ?_) #[true, true, true, true, true, true, true, true, true, true, true, true, true, true, true, true, true, true, true, true, true, true, true, true, true, true, true, true, true, true, true, true, true, true, true, false, false, false, false, false, false, false, false, false, false, false, false, false, false, false, false, false, false, false, false] rfl rfl (by kernel_rfl) (fun _ _ _ h => h) (Or.inl ⟨by rfl, ?_⟩) ?_ ?_
            rotate_left
            · intro w'
              go_simp
              with_reducible rfl
            rotate_left
            · simp only [Act.put, List.setIfInBounds_toArray, List.set_cons_zero, List.set_cons_succ, i64_w, i32_w]
              rfl
            refine pure_ (i := 35) (N := (some 152)) (v := ?_) (a' := ?_) #[true, true, true, true, true, true, true, true, true, true, true, true, true, true, true, true, true, true, true, true, true, true, true, true, true, true, true, true, true, true, true, true, true, true, true, true, false, false, false, false, false, false, false, false, false, false, false, false, false, false, false, false, false, false, false] rfl rfl (by kernel_rfl) (fun _ _ _ h => h) (Or.inl ⟨by rfl, ?_⟩) ?_ ?_
            rotate_left
            · intro w'
              go_simp
              with_reducible rfl
            rotate_left
            · simp only [Act.put, List.setIfInBounds_toArray, List.set_cons_zero, List.set_cons_succ, i64_w, i32_w]
              rfl
            refine pure_ (i := 36) (N := (some 153)) (v := ?_) (a' := ?_) #[true, true, true, true, true, true, true, true, true, true, true, true, true, true, true, true, true, true, true, true, true, true, true, true, true, true, true, true, true, true, true, true, true, true, true, true, true, false, false, false, false, false, false, false, false, false, false, false, false, false, false, false, false, false, false] rfl rfl (by kernel_rfl) (fun _ _ _ h => h) (Or.inl ⟨by rfl, ?_⟩) ?_ ?_
            rotate_left
            · intro w'
              go_simp
              with_reducible rfl
            rotate_left
            · simp only [Act.put, List.setIfInBounds_toArray, List.set_cons_zero, List.set_cons_succ, i64_w, i32_w]
              rfl
            refine take_ (i := 37) (N := (some 154)) (v := ?_) (a' := ?_) #[true, true, true, true, true, true, true, true, true, true, true, true, true, true, true, true, true, true, true, true, true, true, true, true, true, true, true, true, true, true, true, true, true, true, true, true, true, true, false, false, false, false, false, false, false, false, false, false, false, false, false, false, false, false, false] rfl rfl (by kernel_rfl) (fun _ _ _ h => h) (Or.inl ⟨by rfl, ?_⟩) hHeld ?_ ?_
            rotate_left
            · rintro w' ⟨y0, y1, y2, y3, y4, y5⟩
              go_simp
              with_reducible rfl
            rotate_left
            · simp only [Act.put, List.setIfInBounds_toArray, List.set_cons_zero, List.set_cons_succ, i64_w, i32_w]
              rfl
            refine one_ (i := 38) (N := (some 155)) #[true, true, true, true, true, true, true, true, true, true, true, true, true, true, true, true, true, true, true, true, true, true, true, true, true, true, true, true, true, true, true, true, true, true, true, true, true, true, true, false, false, false, false, false, false, false, false, false, false, false, false, false, false, false, false] rfl rfl (by kernel_rfl) (by decide) (fun K hK => ?_)
            refine goes_ Try.func26 (by kernel_rfl) rfl #[.slice An nb cx, .slice B nb cb] (by rfl) rfl rfl (by (try simp only [List.map_toArray, List.map_cons, List.map_nil]); first | done | rfl) ?_
            refine (HS2.out _ hbb).mono ?_
            rintro e w6 ⟨rfl, hbb6⟩
            refine ⟨_, rfl, ?_⟩
            refine hK.out _ _ ⟨keepB hbb6 b0, keepB hbb6 b1, keepB hbb6 b2, keepB hbb6 t0, keepB hbb6 t1, keepB hbb6 t2⟩ (fun hHeld => ?_)
            clear hK K
            refine norm_ (a' := ?_) ?_ ?_
            rotate_left
            · show Act.put _ (some 155) _ = _
              simp only [Act.put, List.setIfInBounds_toArray, List.set_cons_zero, List.set_cons_succ, i64_w, i32_w]
              rfl
            refine pure_ (i := 39) (N := (some 156)) (v := ?_) (a' := ?_) #[true, true, true, true, true, true, true, true, true, true, true, true, true, true, true, true, true, true, true, true, true, true, true, true, true, true, true, true, true, true, true, true, true, true, true, true, true, true, true, true, false, false, false, false, false, false, false, false, false, false, false, false, false, false, false] rfl rfl (by kernel_rfl) (fun _ _ _ h => h) (Or.inl ⟨by rfl, ?_⟩) ?_ ?_
            rotate_left
            · intro w'
              go_simp
              with_reducible rfl
            rotate_left
            · simp only [Act.put, List.setIfInBounds_toArray, List.set_cons_zero, List.set_cons_succ, i64_w, i32_w]
              rfl
            refine pure_ (i := 40) (N := (some 157)) (v := ?_) (a' := ?_) #[true, true, true, true, true, true, true, true, true, true, true, true, true, true, true, true, true, true, true, true, true, true, true, true, true, true, true, true, true, true, true, true, true, true, true, true, true, true, true, true, true, false, false, false, false, false, false, false, false, false, false, false, false, false, false] rfl rfl (by kernel_rfl) (fun _ _ _ h => h) (Or.inl ⟨by rfl, ?_⟩) ?_ ?_
            rotate_left
            · intro w'
              go_simp
              with_reducible rfl
            rotate_left
            · simp only [Act.put, List.setIfInBounds_toArray, List.set_cons_zero, List.set_cons_succ, i64_w, i32_w]
              rfl
            refine pure_ (i := 41) (N := (some 158)) (v := ?_) (a' := ?_) #[true, true, true, true, true, true, true, true, true, true, true, true, true, true, true, true, true, true, true, true, true, true, true, true, true, true, true, true, true, true, true, true, true, true, true, true, true, true, true, true, true, true, false, false, false, false, false, false, false, false, false, false, false, false, false] rfl rfl (by kernel_rfl) (fun _ _ _ h => h) (Or.inl ⟨by rfl, ?_⟩) ?_ ?_
            rotate_left
            · intro w'
              go_simp
              with_reducible rfl
            rotate_left
            · simp only [Act.put, List.setIfInBounds_toArray, List.set_cons_zero, List.set_cons_succ, i64_w, i32_w]
              rfl
            refine pure_ (i := 42) (N := (some 159)) (v := ?_) (a' := ?_) #[true, true, true, true, true, true, true, true, true, true, true, true, true, true, true, true, true, true, true, true, true, true, true, true, true, true, true, true, true, true, true, true, true, true, true, true, true, true, true, true, true, true, true, false, false, false, false, false, false, false, false, false, false, false, false] rfl rfl (by kernel_rfl) (fun _ _ _ h => h) (Or.inl ⟨by rfl, ?_⟩) ?_ ?_
            rotate_left
            · intro w'
              go_simp
              with_reducible rfl
            rotate_left
            · simp only [Act.put, List.setIfInBounds_toArray, List.set_cons_zero, List.set_cons_succ, i64_w, i32_w]
              rfl
            refine take_ (i := 43) (N := (some 160)) (v := ?_) (a' := ?_) #[true, true, true, true, true, true, true, true, true, true, true, true, true, true, true, true, true, true, true, true, true, true, true, true, true, true, true, true, true, true, true, true, true, true, true, true, true, true, true, true, true, true, true, true, false, false, false, false, false, false, false, false, false, false, false] rfl rfl (by kernel_rfl) (fun _ _ _ h => h) (Or.inl ⟨by rfl, ?_⟩) hHeld ?_ ?_
            rotate_left
            · rintro w' ⟨y0, y1, y2, y3, y4, y5⟩
              go_simp
              with_reducible rfl
            rotate_left
            · simp only [Act.put, List.setIfInBounds_toArray, List.set_cons_zero, List.set_cons_succ, i64_w, i32_w]
              rfl
            refine pure_ (i := 44) (N := (some 161)) (v := ?_) (a' := ?_) #[true, true, true, true, true, true, true, true, true, true, true, true, true, true, true, true, true, true, true, true, true, true, true, true, true, true, true, true, true, true, true, true, true, true, true, true, true, true, true, true, true, true, true, true, true, false, false, false, false, false, false, false, false, false, false] rfl rfl (by kernel_rfl) (fun _ _ _ h => h) (Or.inl ⟨by rfl, ?_⟩) ?_ ?_
            rotate_left
            · intro w'
              go_simp
              with_reducible rfl
            rotate_left
            · simp only [Act.put, List.setIfInBounds_toArray, List.set_cons_zero, List.set_cons_succ, i64_w, i32_w]
              rfl
            refine take_ (i := 45) (N := (some 162)) (v := ?_) (a' := ?_) #[true, true, true, true, true, true, true, true, true, true, true, true, true, true, true, true, true, true, true, true, true, true, true, true, true, true, true, true, true, true, true, true, true, true, true, true, true, true, true, true, true, true, true, true, true, true, false, false, false, false, false, false, false, false, false] rfl rfl (by kernel_rfl) (fun _ _ _ h => h) (Or.inl ⟨by rfl, ?_⟩) hHeld ?_ ?_
            rotate_left
            · rintro w' ⟨y0, y1, y2, y3, y4, y5⟩
              go_simp
              with_reducible rfl
            rotate_left
            · simp only [Act.put, List.setIfInBounds_toArray, List.set_cons_zero, List.set_cons_succ, i64_w, i32_w]
              rfl
            refine pure_ (i := 46) (N := (some 163)) (v := ?_) (a' := ?_) #[true, true, true, true, true, true, true, true, true, true, true, true, true, true, true, true, true, true, true, true, true, true, true, true, true, true, true, true, true, true, true, true, true, true, true, true, true, true, true, true, true, true, true, true, true, true, true, false, false, false, false, false, false, false, false] rfl rfl (by kernel_rfl) (fun _ _ _ h => h) (Or.inl ⟨by rfl, ?_⟩) ?_ ?_
            rotate_left
            · intro w'
              go_simp
              with_reducible rfl
            rotate_left
            · simp only [Act.put, List.setIfInBounds_toArray, List.set_cons_zero, List.set_cons_succ, i64_w, i32_w]
              rfl
            refine pure_ (i := 47) (N := (some 164)) (v := ?_) (a' := ?_) #[true, true, true, true, true, true, true, true, true, true, true, true, true, true, true, true, true, true, true, true, true, true, true, true, true, true, true, true, true, true, true, true, true, true, true, true, true, true, true, true, true, true, true, true, true, true, true, true, false, false, false, false, false, false, false] rfl rfl (by kernel_rfl) (fun _ _ _ h => h) (Or.inl ⟨by rfl, ?_⟩) ?_ ?_
            rotate_left
            · intro w'
              go_simp
              with_reducible rfl
            rotate_left
            · simp only [Act.put, List.setIfInBounds_toArray, List.set_cons_zero, List.set_cons_succ, i64_w, i32_w]
              rfl
            refine pure_ (i := 48) (N := (some 165)) (v := ?_) (a' := ?_) #[true, true, true, true, true, true, true, true, true, true, true, true, true, true, true, true, true, true, true, true, true, true, true, true, true, true, true, true, true, true, true, true, true, true, true, true, true, true, true, true, true, true, true, true, true, true, true, true, true, false, false, false, false, false, false] rfl rfl (by kernel_rfl) (fun _ _ _ h => h) (Or.inl ⟨by rfl, ?_⟩) ?_ ?_
            rotate_left
            · intro w'
              go_simp
              with_reducible rfl
            rotate_left
            · simp only [Act.put, List.setIfInBounds_toArray, List.set_cons_zero, List.set_cons_succ, i64_w, i32_w]
              rfl
            refine pure_ (i := 49) (N := (some 166)) (v := ?_) (a' := ?_) #[true, true, true, true, true, true, true, true, true, true, true, true, true, true, true, true, true, true, true, true, true, true, true, true, true, true, true, true, true, true, true, true, true, true, true, true, true, true, true, true, true, true, true, true, true, true, true, true, true, true, false, false, false, false, false] rfl rfl (by kernel_rfl) (fun _ _ _ h => h) (Or.inl ⟨by rfl, ?_⟩) ?_ ?_
            rotate_left
            · intro w'
              go_simp
              with_reducible rfl
            rotate_left
            · simp only [Act.put, List.setIfInBounds_toArray, List.set_cons_zero, List.set_cons_succ, i64_w, i32_w]
              rfl
            refine take_ (i := 50) (N := (some 167)) (v := ?_) (a' := ?_) #[true, true, true, true, true, true, true, true, true, true, true, true, true, true, true, true, true, true, true, true, true, true, true, true, true, true, true, true, true, true, true, true, true, true, true, true, true, true, true, true, true, true, true, true, true, true, true, true, true, true, true, false, false, false, false] rfl rfl (by kernel_rfl) (fun _ _ _ h => h) (Or.inl ⟨by rfl, ?_⟩) hHeld ?_ ?_
            rotate_left
            · rintro w' ⟨y0, y1, y2, y3, y4, y5⟩
              go_simp
              with_reducible rfl
            rotate_left
            · simp only [Act.put, List.setIfInBounds_toArray, List.set_cons_zero, List.set_cons_succ, i64_w, i32_w]
              rfl
            refine pure_ (i := 51) (N := (some 168)) (v := ?_) (a' := ?_) #[true, true, true, true, true, true, true, true, true, true, true, true, true, true, true, true, true, true, true, true, true, true, true, true, true, true, true, true, true, true, true, true, true, true, true, true, true, true, true, true, true, true, true, true, true, true, true, true, true, true, true, true, false, false, false] rfl rfl (by kernel_rfl) (fun _ _ _ h => h) (Or.inl ⟨by rfl, ?_⟩) ?_ ?_
            rotate_left
            · intro w'
              go_simp
              with_reducible rfl
            rotate_left
            · simp only [Act.put, List.setIfInBounds_toArray, List.set_cons_zero, List.set_cons_succ, i64_w, i32_w]
              rfl
            refine take_ (i := 52) (N := (some 169)) (v := ?_) (a' := ?_) #[true, true, true, true, true, true, true, true, true, true, true, true, true, true, true, true, true, true, true, true, true, true, true, true, true, true, true, true, true, true, true, true, true, true, true, true, true, true, true, true, true, true, true, true, true, true, true, true, true, true, true, true, true, false, false] rfl rfl (by kernel_rfl) (fun _ _ _ h => h) (Or.inl ⟨by rfl, ?_⟩) hHeld ?_ ?_
            rotate_left
            · rintro w' ⟨y0, y1, y2, y3, y4, y5⟩
              go_simp
              with_reducible rfl
            rotate_left
            · simp only [Act.put, List.setIfInBounds_toArray, List.set_cons_zero, List.set_cons_succ, i64_w, i32_w]
              rfl
            refine pure_ (i := 53) (N := (some 170)) (v := ?_) (a' := ?_) #[true, true, true, true, true, true, true, true, true, true, true, true, true, true, true, true, true, true, true, true, true, true, true, true, true, true, true, true, true, true, true, true, true, true, true, true, true, true, true, true, true, true, true, true, true, true, true, true, true, true, true, true, true, true, false] rfl rfl (by kernel_rfl) (fun _ _ _ h => h) (Or.inl ⟨by rfl, ?_⟩) ?_ ?_
            rotate_left
            · intro w'
              go_simp
              with_reducible rfl
            rotate_left
            · simp only [Act.put, List.setIfInBounds_toArray, List.set_cons_zero, List.set_cons_succ, i64_w, i32_w]
              rfl
            refine pure_ (i := 54) (N := (some 171)) (v := ?_) (a' := ?_) #[true, true, true, true, true, true, true, true, true, true, true, true, true, true, true, true, true, true, true, true, true, true, true, true, true, true, true, true, true, true, true, true, true, true, true, true, true, true, true, true, true, true, true, true, true, true, true, true, true, true, true, true, true, true, true] rfl rfl (by kernel_rfl) (fun _ _ _ h => h) (Or.inl ⟨by rfl, ?_⟩) ?_ ?_
            rotate_left
            · intro w'
              go_simp
              with_reducible rfl
            rotate_left
            · simp only [Act.put, List.setIfInBounds_toArray, List.set_cons_zero, List.set_cons_succ, i64_w, i32_w]
              rfl
            refine done_ (by kernel_rfl) ?_
            have hb1 := hbb6
            clear hbb6 hbb hHeld
            obtain ⟨v6, rfl⟩ : ∃ x : World, x = w6 := ⟨_, rfl⟩
            replace HO := Lib.hid (HO.out.below hb1)
            replace HN := Lib.hid (HN.out.below hb1)
            replace HBW := Lib.hid (Below.trans HBW.out (hb1.mono HBW.out.size))
            clear hb1 hS hbd b0 b1 b2 t0 t1 t2 HS1 HS2 HCT ha0 ha2 hc3 hwn HWN hbc hbx
            as_aux_lemma =>
              go_wp2
              go_loopw [17] (fun v wr => ∃ m : Nat, (m : Int) ≤ clo ∧ v = .int .i64 (m : Int) ∧ Below v6.heap.size v6 wr) (fun v wr => clo.toNat - (intOf v).toNat)
              case atStart => exact ⟨0, by have := valid_clo HV.out; omega, rfl, Below.refl _ _⟩
              case round =>
                obtain ⟨m, hm, rfl, hbel⟩ := hrel
                replace HO := Lib.hid (HO.out.below hbel)
                replace HN := Lib.hid (HN.out.below hbel)
                replace HBW := Lib.hid (Below.trans HBW.out (hbel.mono HBW.out.size))
                have HLU := Lib.hid hbel
                clear hbel
                have hclo := valid_clo HV.out
                have b0 := HO.out.2.2.1.cell (j := 0) rfl
                have b1 := HO.out.2.2.1.cell (j := 1) rfl
                have b2 := HO.out.2.2.1.cell (j := 2) rfl
                by_cases hlt : (m : Int) < clo
                · obtain ⟨xl, hxl⟩ : ∃ xl, stmtF (N : Int) ps clo (m : Int) = (xl, 0) := by
                    unfold stmtF
                    rw [HV.out, decide_eq_true (show 0 ≤ (m : Int) ∧ (m : Int) ≤ 11 by omega)]
                    exact ⟨_, rfl⟩
                  have hxl2 : stmtF (N : Int) rl r3 (m : Int) = (xl, 0) := by rw [HK.out.st (m : Int) (by omega) hlt, hxl]
                  have hx16 := stmtF_len _ _ _ _ _ hxl
                  dsimp only at hx16
                  have hd := bStmt (N : Int) clo B nb cb ps HO.out.1 (m : Int) (xl, 0) hxl wr HO.out.reads HO.out.2.1 (by omega)
                  dsimp only at hd
                  have HD := Lib.hid hd
                  have hd2 : ∀ V, Below wr.heap.size wr V → Calls Try.prog 19 #[.agg #[.int .i64 (N : Int), .slice An nx cx, .int .i64 r3], .int .i64 (m : Int)] V fun e w' => ∃ (A' : Option Addr) (c' n' : Nat), xl.length = n' ∧ n' ≤ c' ∧ e = .returned (.tuple #[.slice A' n' c', .int .i64 0]) ∧ Kd.R (Kd.int .i64) 3 w' V.heap.size (fun _ => True) (.slice A' n' c') xl ∧ Below V.heap.size V w' := fun V hV => bStmt (N : Int) r3 An nx cx rl HN.out.1 (m : Int) (xl, 0) hxl2 V (HN.out.below hV).reads HN.out.2.1 (by omega)
                  have HD2 := Lib.hid hd2
                  clear hd hd2 hxl hxl2
                  go_wp2_with (first | (go_at_call 19; (with_reducible refine HD.out.mono ?_); rintro e wx ⟨X, cX, nX, hnX, hcX, rfl, hRX, hbX⟩; have HBX := Lib.hid hbX; have t0 := (HN.out.below HBX.out).2.2.1.cell (j := 0) rfl; have t1 := (HN.out.below HBX.out).2.2.1.cell (j := 1) rfl; have t2 := (HN.out.below HBX.out).2.2.1.cell (j := 2) rfl) | (go_at_call 19; (with_reducible refine (HD2.out _ HBX.out).mono ?_); rintro e wy ⟨Y, cY, nY, hnY, hcY, rfl, hRY, hbY⟩; obtain rfl := hnX.symm.trans hnY; have hI := rInts_walk nX (by omega) X Y cX cY xl hnX wy (by have h := (Kd.R_reads' (Kd.R_below hRX hbY)).2.2; rwa [hnX] at h) hcX (by have h := (Kd.R_reads' hRY).2.2; rwa [hnX] at h) hcY; have HI := Lib.hid hI; have HBY := Lib.hid (Below.trans HBX.out (hbY.mono HBX.out.size)); clear hI) | (go_at_call 23; (with_reducible refine HI.out.mono ?_); rintro e wz ⟨rfl, hbz⟩; have HBZ := Lib.hid (Below.trans HLU.out ((Below.trans HBY.out (hbz.mono HBY.out.size)).mono HLU.out.size))) | fail)
                  go_roundw
                  case rel => exact ⟨m + 1, by omega, by go_num, HBZ.out⟩
                  case measure => simp [intOf]; omega
                · have t0 := HN.out.2.2.1.cell (j := 0) rfl
                  have t1 := HN.out.2.2.1.cell (j := 1) rfl
                  have t2 := HN.out.2.2.1.cell (j := 2) rfl
                  have f0 := HO.out.2.2.1.free 0
                  have f1 := HO.out.2.2.1.free 1
                  have f2 := HO.out.2.2.1.free 2
                  have hHO2 := HO.out.take2 (acc' := (N : Int)) (clo' := r3) HN.out.1 HN.out.2.2.2 (Nat.le_refl _)
                  have HO2 := Lib.hid hHO2
                  have HB2 := Lib.hid (res_below HBW.out HLG.out (.int .i64 (N : Int)) (.slice An nx cx) (.int .i64 r3))
                  clear hHO2
                  go_wp2
                  go_roundw
                  case rel => exact ⟨k + 1, An, nx, cx, r3, rl, by omega, by omega, by go_num, HO2, Lib.hid HK.out.v, HB2⟩
                  case measure => simp [intOf]; omega
        · as_aux_lemma =>
            obtain rfl : 0 = nx := HN.out.1
            have t0 := HN.out.2.2.1.cell (j := 0) rfl
            have t1 := HN.out.2.2.1.cell (j := 1) rfl
            have t2 := HN.out.2.2.1.cell (j := 2) rfl
            have hd := rSame_walk 0 0 0 (by omega) An none cx 0 [] rfl wc HN.out.reads HN.out.2.1 (Kd.C_nil _ _) (Nat.le_refl _)
            have HD := Lib.hid hd
            clear hd hlen hlo
            go_wp2_with (first | (go_at_call 13; (with_reducible refine HD.out.mono ?_); rintro e v5 ⟨rfl, hb1⟩) | fail)
            replace HO := Lib.hid (HO.out.below hb1)
            replace HBW := Lib.hid (Below.trans HBW.out (hb1.mono HBW.out.size))
            go_roundw
            case rel => exact ⟨k + 1, B, nb, cb, clo, ps, by omega, by omega, by go_num, HO, HV, HBW⟩
            case measure => simp [intOf]; omega
    · have g0 := HO.out.2.2.1.cell (j := 0) rfl
      by_cases hkn : k < n2
      · have hk2 : ¬ k < 8 := by omega
        have d1 : decide ((k : Int) < (n2 : Int)) = true := decide_eq_true (by omega)
        have d2 : decide ((k : Int) < 8) = false := decide_eq_false (by omega)
        clear hlt
        go_wp2
        go_ret
        exact ⟨rfl, HBW.out⟩
      · have d1 : decide ((k : Int) < (n2 : Int)) = false := decide_eq_false (by omega)
        clear hlt
        go_wp2
        go_ret
        exact ⟨rfl, HBW.out⟩
end Go.Proofs.Ytooogaogbffjfaa.Ext
end
