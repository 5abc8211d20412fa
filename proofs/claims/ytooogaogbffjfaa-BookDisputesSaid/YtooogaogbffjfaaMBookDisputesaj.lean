import Derived.Test.YtooogaogbffjfaaMBookDisputesai
/-
  Texts of this claim, one behind the other: what they prove stands above each.
-/
section
/-
  Post, where a posting is taken.
-/
set_option linter.unusedVariables false
set_option linter.unusedSimpArgs false
namespace Go.Proofs.Ytooogaogbffjfaa.Ext
open Go.RowKit Go.Proofs.YtooogaogbffjfaaW.PrintWords Go.Proofs.YtooogaogbffjfaaW.PrintLast Go.Proofs.YtooogaogbffjfaaW.PrintMore Go.Proofs.Ytooogaogbffjfaa.PK Go.Proofs.Ytooogaogbffjfaa.Bk
attribute [local go_sem] Oper.semAt_some
set_option maxRecDepth 100000 in
set_option maxHeartbeats 4000000 in
theorem Post_yes (acc clo : Int) (A : Option Addr) (c : Nat) (ps : List S27) (p : S27) (w : World) (hr : Kd.C k27 w A ps.length ps) (hn : ps.length ≤ 1000000) (ho : okAll acc [] ps = true) (hi : inB acc clo = true) (hp : postB acc clo ps p = true) :
    Calls Try.prog 9 #[.agg #[.int .i64 acc, .slice A ps.length c, .int .i64 clo], pv p] w fun e w' => ∃ v1 : Value, e = .returned (.tuple #[.agg #[.int .i64 acc, v1, .int .i64 clo], .int .i64 (ps.length : Int), .int .i64 0]) ∧ Kd.R k27 27 w' w.heap.size (fun _ => True) v1 (ps ++ [p]) ∧ Below w.heap.size w w' := by
  have HPS := Lib.hid (okAll_200 ho)
  have HR := Lib.hid hr
  have HO := Lib.hid ho
  have HI := Lib.hid hi
  have HP := Lib.hid hp
  clear hr ho hi hp
  unfold pv
  go_enter Try.func9, Try.ntmps9
  go_upto_region 4 with (first | (go_at_call 28; refine (open_yes acc clo A c ps _ (Kd.C_alloc (Kd.C_alloc (Kd.C_alloc HR.out _) _) _) hn HO.out true HI.out).mono ?_; rintro e w2 ⟨B, rfl, hL2⟩; have HLL := Lib.hid hL2; have HE := Lib.hid (post_box w _ _ p hL2.1); obtain ⟨x0, x1, x2, x3, x4, x5, x6⟩ := HE.out; clear hL2) | (go_at_call 29; refine (post_walk _ _ B acc clo ps p HLL.out HPS.out (clo_of HI.out) true HP.out).mono ?_; rintro e w3 ⟨rfl, hL3⟩) | fail)
  replace hL3 : Ledger _ w3 B acc clo (ps ++ [p]) := hL3
  obtain ⟨hb3, hB3, v', hLed, hR', hne, _⟩ := hL3
  have hRb : Blk w3.drew (w.heap.size + 1 + 1) 24 [.int .i64 0, .slice none 0 0, .int .i64 0] := by
    have h := (res_blk w _ _).belowS hb3
    exact h
  have y3 := post_arg w _ _ hb3
  have y0 : w3.drew.cell? ⟨B, 0, none⟩ = some (.int .i64 acc) := hLed.cell rfl
  have y1 : w3.drew.cell? ⟨B, 1, none⟩ = some v' := hLed.cell rfl
  have y2 : w3.drew.cell? ⟨B, 2, none⟩ = some (.int .i64 clo) := hLed.cell rfl
  obtain ⟨a', k', rfl⟩ := Kd.R_slice hR'
  obtain ⟨nn, hnn⟩ : ∃ nn, (ps ++ [p]).length = nn := ⟨_, rfl⟩
  rw [hnn] at y1 hR' hLed
  have HNN := Lib.hid hnn
  clear hnn
  have HBR := Lib.hid (show B ≠ w.heap.size + 1 + 1 from fun e => by simp at hB3; omega)
  have HXR := Lib.hid (show w.heap.size ≠ w.heap.size + 1 + 1 from by omega)
  have hbd := below_drew1 hb3
  have hRd := Kd.R_drew hR'
  have HRR := Lib.hid <| res_facts (w := w3.drew) hRb (.int .i64 acc) (.slice a' nn k') (.int .i64 clo)
  refine start_ (n := 10) (S := fun w' => w'.cell? ⟨B, 0, none⟩ = some (.int .i64 acc) ∧ w'.cell? ⟨B, 1, none⟩ = some (.slice a' nn k') ∧ w'.cell? ⟨B, 2, none⟩ = some (.int .i64 clo) ∧ w'.cell? ⟨w.heap.size, 1, none⟩ = some (.slice A ps.length c)) (ds := []) #[false, false, false, false, false, false, false, false, false, false] (by kernel_rfl) rfl rfl ⟨y0, y1, y2, y3⟩ (fun hHeld => ?_)
  generalize w3.drew = wd at *
  refine pure_ (i := 0) (N := some 23) (v := ?_) (a' := ?_) #[true, false, false, false, false, false, false, false, false, false] rfl rfl (by kernel_rfl) (fun _ _ _ h => h) (Or.inl ⟨by rfl, ?_⟩) ?_ ?_
  rotate_left
  · intro w'
    go_simp
    with_reducible rfl
  rotate_left
  · simp only [Act.put, List.setIfInBounds_toArray, List.set_cons_zero, List.set_cons_succ, i64_w, i32_w]
    rfl
  refine pure_ (i := 1) (N := some 24) (v := ?_) (a' := ?_) #[true, true, false, false, false, false, false, false, false, false] rfl rfl (by kernel_rfl) (fun _ _ _ h => h) (Or.inl ⟨by rfl, ?_⟩) ?_ ?_
  rotate_left
  · intro w'
    go_simp
    with_reducible rfl
  rotate_left
  · simp only [Act.put, List.setIfInBounds_toArray, List.set_cons_zero, List.set_cons_succ, i64_w, i32_w]
    rfl
  refine pure_ (i := 2) (N := some 25) (v := ?_) (a' := ?_) #[true, true, true, false, false, false, false, false, false, false] rfl rfl (by kernel_rfl) (fun _ _ _ h => h) (Or.inl ⟨by rfl, ?_⟩) ?_ ?_
  rotate_left
  · intro w'
    go_simp
    with_reducible rfl
  rotate_left
  · simp only [Act.put, List.setIfInBounds_toArray, List.set_cons_zero, List.set_cons_succ, i64_w, i32_w]
    rfl
  refine pure_ (i := 4) (N := some 27) (v := ?_) (a' := ?_) #[true, true, true, false, true, false, false, false, false, false] rfl rfl (by kernel_rfl) (fun _ _ _ h => h) (Or.inl ⟨by rfl, ?_⟩) ?_ ?_
  rotate_left
  · intro w'
    go_simp
    with_reducible rfl
  rotate_left
  · simp only [Act.put, List.setIfInBounds_toArray, List.set_cons_zero, List.set_cons_succ, i64_w, i32_w]
    rfl
  refine take_ (i := 3) (N := some 26) (v := ?_) (a' := ?_) #[true, true, true, true, true, false, false, false, false, false] rfl rfl (by kernel_rfl) (fun _ _ _ h => h) (Or.inl ⟨by rfl, ?_⟩) hHeld ?_ ?_
  rotate_left
  · rintro w' ⟨s0, s1, s2, s3⟩
    go_simp
    with_reducible rfl
  rotate_left
  · simp only [Act.put, List.setIfInBounds_toArray, List.set_cons_zero, List.set_cons_succ, i64_w, i32_w]
    rfl
  refine take_ (i := 5) (N := some 28) (v := ?_) (a' := ?_) #[true, true, true, true, true, true, false, false, false, false] rfl rfl (by kernel_rfl) (fun _ _ _ h => h) (Or.inl ⟨by rfl, ?_⟩) hHeld ?_ ?_
  rotate_left
  · rintro w' ⟨s0, s1, s2, s3⟩
    go_simp
    with_reducible rfl
  rotate_left
  · simp only [Act.put, List.setIfInBounds_toArray, List.set_cons_zero, List.set_cons_succ, i64_w, i32_w]
    rfl
  refine pure_ (i := 6) (N := some 29) (v := ?_) (a' := ?_) #[true, true, true, true, true, true, true, false, false, false] rfl rfl (by kernel_rfl) (fun _ _ _ h => h) (Or.inl ⟨by rfl, ?_⟩) ?_ ?_
  rotate_left
  · intro w'
    go_simp
    with_reducible rfl
  rotate_left
  · simp only [Act.put, List.setIfInBounds_toArray, List.set_cons_zero, List.set_cons_succ, i64_w, i32_w]
    rfl
  refine one_ (i := 7) (N := none) #[true, true, true, true, true, true, true, true, false, false] rfl rfl (by kernel_rfl) (by decide) (fun K hK => ?_)
  obtain ⟨r1, r2, r3, r4, r5, r6, _, _, _, _⟩ := HRR.out
  refine skip_ (w1 := ?_) (by rfl) rfl ?_ ?_
  rotate_left
  · go_simp
    rfl
  refine hK.out _ _ ⟨keep3 HBR.out (hHeld.1) _ _ _, keep3 HBR.out (hHeld.2.1) _ _ _, keep3 HBR.out (hHeld.2.2.1) _ _ _, keep3 HXR.out (hHeld.2.2.2) _ _ _⟩ (fun hHeld => ?_)
  clear hK K r1 r2 r3 r4 r5 r6
  refine pure_ (i := 8) (N := some 5) (v := ?_) (a' := ?_) #[true, true, true, true, true, true, true, true, true, false] rfl rfl (by kernel_rfl) (fun _ _ _ h => h) (Or.inl ⟨by rfl, ?_⟩) ?_ ?_
  rotate_left
  · intro w'
    go_simp
    with_reducible rfl
  rotate_left
  · simp only [Act.put, List.setIfInBounds_toArray, List.set_cons_zero, List.set_cons_succ, i64_w, i32_w]
    rfl
  refine pure_ (i := 9) (N := some 6) (v := ?_) (a' := ?_) #[true, true, true, true, true, true, true, true, true, true] rfl rfl (by kernel_rfl) (fun _ _ _ h => h) (Or.inl ⟨by rfl, ?_⟩) ?_ ?_
  rotate_left
  · intro w'
    go_simp
    with_reducible rfl
  rotate_left
  · simp only [Act.put, List.setIfInBounds_toArray, List.set_cons_zero, List.set_cons_succ, i64_w, i32_w]
    rfl
  refine done_ (by kernel_rfl) ?_
  go_wp2
  obtain ⟨_, _, _, _, _, _, _, _, _, r10⟩ := HRR.out
  refine bodyPost_ret (results_list (rs := [.cell 4 24, .tmp 5, .tmp 6]) rfl (by simp) (.cell _ _ _ (0, 0) _ rfl r10 Try.underlying24 rfl (by kernel_rfl) (.tmp (.tmp .nil)))) rfl ?_
  refine ⟨_, rfl, ?_, res_below (Below.trans (below3 w _ _ _) (hbd.mono (below3 w _ _ _).size)) (by omega) _ _ _⟩
  exact Kd.R_lower (res_keep hRd hRb _ _ _) (below3 w _ _ _).size
end Go.Proofs.Ytooogaogbffjfaa.Ext
end
section
/-
  Close.
-/
set_option linter.unusedVariables false
set_option linter.unusedSimpArgs false
namespace Go.Proofs.Ytooogaogbffjfaa.Ext
open Go.RowKit Go.Proofs.YtooogaogbffjfaaW.PrintWords Go.Proofs.YtooogaogbffjfaaW.PrintLast Go.Proofs.YtooogaogbffjfaaW.PrintMore Go.Proofs.Ytooogaogbffjfaa.PK Go.Proofs.Ytooogaogbffjfaa.Bk
attribute [local go_sem] Oper.semAt_some
theorem res_blk1 (w : World) (a : Obj) : Blk ((w.alloc a).alloc (.cells #[.int .i64 0, .slice none 0 0, .int .i64 0] 24)) (w.heap.size + 1) 24 [.int .i64 0, .slice none 0 0, .int .i64 0] := by
  have := Blk.new (w.alloc a) 24 [.int .i64 0, .slice none 0 0, .int .i64 0]
  simpa using this
theorem below2 (w : World) (a b : Obj) : Below w.heap.size w ((w.alloc a).alloc b) := ((Below.refl _ _).alloc (Nat.le_refl _) _).alloc (by simp) _
theorem arg_clo (w : World) (b : Obj) {w2 : World} {acc clo : Int} {A : Option Addr} {n k : Nat} (hb : Below ((w.alloc (.cells #[.int .i64 acc, .slice A n k, .int .i64 clo] 24)).alloc b).heap.size ((w.alloc (.cells #[.int .i64 acc, .slice A n k, .int .i64 clo] 24)).alloc b) w2) :
    w2.cell? ⟨w.heap.size, 2, none⟩ = some (.int .i64 clo) := keepB hb (c_old (c_new _ _ _ _ _ _ rfl rfl))
set_option maxRecDepth 100000 in
set_option maxHeartbeats 4000000 in
theorem Close_no1 (acc clo : Int) (A : Option Addr) (c : Nat) (ps : List S27) (month : Int) (w : World) (hr : Kd.C k27 w A ps.length ps) (hn : ps.length ≤ 1000000) (ho : okAll acc [] ps = false) :
    Calls Try.prog 17 #[.agg #[.int .i64 acc, .slice A ps.length c, .int .i64 clo], .int .i64 month] w fun e w' => e = .returned (.tuple #[.agg #[.int .i64 0, .slice none 0 0, .int .i64 0], .int .i64 240]) ∧ Below w.heap.size w w' := by
  have HR := Lib.hid hr
  have HO := Lib.hid ho
  clear hr ho
  go_enter Try.func17, Try.ntmps17
  go_wp2_with (first | (go_at_call 28; refine (open_no acc clo A c ps _ (Kd.C_alloc (Kd.C_alloc HR.out _) _) hn HO.out).mono ?_; rintro e w2 ⟨rfl, hb2⟩; have hR := (res_blk1 w _).belowS hb2; obtain ⟨r1, r2, r3, r4, r5, r6, r7, r8, r9, r10⟩ := res_facts hR (.int .i64 0) (.slice none 0 0) (.int .i64 0)) | fail)
  refine bodyPost_ret (results_list (rs := [.cell 4 24, .tmp 5]) rfl (by simp) (.cell _ _ _ (0, 0) _ rfl r10 Try.underlying24 rfl (by kernel_rfl) (.tmp .nil))) rfl ?_
  exact ⟨rfl, res_below (Below.trans (below2 w _ _) (hb2.mono (below2 w _ _).size)) (by omega) _ _ _⟩
set_option maxRecDepth 100000 in
set_option maxHeartbeats 4000000 in
theorem Close_no2 (acc clo : Int) (A : Option Addr) (c : Nat) (ps : List S27) (month : Int) (w : World) (hr : Kd.C k27 w A ps.length ps) (hn : ps.length ≤ 1000000) (ho : okAll acc [] ps = true) (hi : inB acc clo = false) :
    Calls Try.prog 17 #[.agg #[.int .i64 acc, .slice A ps.length c, .int .i64 clo], .int .i64 month] w fun e w' => e = .returned (.tuple #[.agg #[.int .i64 0, .slice none 0 0, .int .i64 0], .int .i64 240]) ∧ Below w.heap.size w w' := by
  have HR := Lib.hid hr
  have HO := Lib.hid ho
  have HI := Lib.hid hi
  clear hr ho hi
  go_enter Try.func17, Try.ntmps17
  go_wp2_with (first | (go_at_call 28; refine (open_yes acc clo A c ps _ (Kd.C_alloc (Kd.C_alloc HR.out _) _) hn HO.out false HI.out).mono ?_; rintro e w2 ⟨B, rfl, hL2⟩; have hR := (res_blk1 w _).belowS hL2.1; obtain ⟨r1, r2, r3, r4, r5, r6, r7, r8, r9, r10⟩ := res_facts hR (.int .i64 0) (.slice none 0 0) (.int .i64 0)) | fail)
  refine bodyPost_ret (results_list (rs := [.cell 4 24, .tmp 5]) rfl (by simp) (.cell _ _ _ (0, 0) _ rfl r10 Try.underlying24 rfl (by kernel_rfl) (.tmp .nil))) rfl ?_
  exact ⟨rfl, res_below (Below.trans (below2 w _ _) (hL2.1.mono (below2 w _ _).size)) (by omega) _ _ _⟩
set_option maxRecDepth 100000 in
set_option maxHeartbeats 4000000 in
theorem Close_no3 (acc clo : Int) (A : Option Addr) (c : Nat) (ps : List S27) (month : Int) (w : World) (hr : Kd.C k27 w A ps.length ps) (hn : ps.length ≤ 1000000) (ho : okAll acc [] ps = true) (hi : inB acc clo = true) (hm : month ≠ clo) :
    Calls Try.prog 17 #[.agg #[.int .i64 acc, .slice A ps.length c, .int .i64 clo], .int .i64 month] w fun e w' => e = .returned (.tuple #[.agg #[.int .i64 0, .slice none 0 0, .int .i64 0], .int .i64 240]) ∧ Below w.heap.size w w' := by
  have HR := Lib.hid hr
  have HO := Lib.hid ho
  have HI := Lib.hid hi
  clear hr ho hi
  go_enter Try.func17, Try.ntmps17
  go_wp2_with (first | (go_at_call 28; refine (open_yes acc clo A c ps _ (Kd.C_alloc (Kd.C_alloc HR.out _) _) hn HO.out true HI.out).mono ?_; rintro e w2 ⟨B, rfl, hL2⟩; have hac := arg_clo w _ hL2.1; have hR := (res_blk1 w _).belowS hL2.1; obtain ⟨r1, r2, r3, r4, r5, r6, r7, r8, r9, r10⟩ := res_facts hR (.int .i64 0) (.slice none 0 0) (.int .i64 0)) | fail)
  refine bodyPost_ret (results_list (rs := [.cell 4 24, .tmp 5]) rfl (by simp) (.cell _ _ _ (0, 0) _ rfl r10 Try.underlying24 rfl (by kernel_rfl) (.tmp .nil))) rfl ?_
  exact ⟨rfl, res_below (Below.trans (below2 w _ _) (hL2.1.mono (below2 w _ _).size)) (by omega) _ _ _⟩
set_option maxRecDepth 100000 in
set_option maxHeartbeats 4000000 in
theorem Close_no4 (acc clo : Int) (A : Option Addr) (c : Nat) (ps : List S27) (month : Int) (w : World) (hr : Kd.C k27 w A ps.length ps) (hn : ps.length ≤ 1000000) (ho : okAll acc [] ps = true) (hi : inB acc clo = true) (hm : clo = month) (hc : decide (0 ≤ clo ∧ clo ≤ 11) = false) :
    Calls Try.prog 17 #[.agg #[.int .i64 acc, .slice A ps.length c, .int .i64 clo], .int .i64 month] w fun e w' => e = .returned (.tuple #[.agg #[.int .i64 0, .slice none 0 0, .int .i64 0], .int .i64 240]) ∧ Below w.heap.size w w' := by
  have HR := Lib.hid hr
  have HO := Lib.hid ho
  obtain rfl := hm
  have HI := Lib.hid hi
  have HC := Lib.hid hc
  clear hr ho hi hc
  go_enter Try.func17, Try.ntmps17
  go_wp2_with (first | (go_at_call 28; refine (open_yes acc clo A c ps _ (Kd.C_alloc (Kd.C_alloc HR.out _) _) hn HO.out true HI.out).mono ?_; rintro e w2 ⟨B, rfl, hL2⟩; have hac := arg_clo w _ hL2.1) | (go_at_call 32; (with_reducible refine (isIn_walk' clo 0 11 false HC.out _).mono ?_); rintro e w4 ⟨rfl, hd4⟩; have hb4 := Below.trans hL2.1 (hd4.below.mono hL2.1.size); have hR := (res_blk1 w _).belowS hb4; obtain ⟨r1, r2, r3, r4, r5, r6, r7, r8, r9, r10⟩ := res_facts hR (.int .i64 0) (.slice none 0 0) (.int .i64 0)) | fail)
  refine bodyPost_ret (results_list (rs := [.cell 4 24, .tmp 5]) rfl (by simp) (.cell _ _ _ (0, 0) _ rfl r10 Try.underlying24 rfl (by kernel_rfl) (.tmp .nil))) rfl ?_
  exact ⟨rfl, res_below (Below.trans (below2 w _ _) (hb4.mono (below2 w _ _).size)) (by omega) _ _ _⟩
theorem led_own {ws w : World} {B : Nat} {acc clo : Int} {ps : List S27} (h : Ledger ws w B acc clo ps) : ∃ (a' : Option Addr) (k' nn : Nat), ps.length = nn ∧ Led w B acc (.slice a' nn k') clo (backs ps) ∧ Kd.R k27 27 w ws.heap.size (fun _ => True) (.slice a' nn k') ps ∧ some B ≠ (Value.slice a' nn k').ownBlock := by
  obtain ⟨_, _, v, h1, h2, h3, _⟩ := h
  obtain ⟨a', k', rfl⟩ := Kd.R_slice h2
  exact ⟨a', k', _, rfl, h1, h2, h3⟩
set_option maxRecDepth 100000 in
set_option maxHeartbeats 4000000 in
theorem Close_yes (acc clo : Int) (A : Option Addr) (c : Nat) (ps : List S27) (w : World) (hr : Kd.C k27 w A ps.length ps) (hn : ps.length ≤ 1000000) (ho : okAll acc [] ps = true) (hi : inB acc clo = true) (hc : decide (0 ≤ clo ∧ clo ≤ 11) = true) :
    Calls Try.prog 17 #[.agg #[.int .i64 acc, .slice A ps.length c, .int .i64 clo], .int .i64 clo] w fun e w' => ∃ v1 : Value, e = .returned (.tuple #[.agg #[.int .i64 acc, v1, .int .i64 (clo + 1)], .int .i64 0]) ∧ Kd.R k27 27 w' w.heap.size (fun _ => True) v1 ps ∧ Below w.heap.size w w' := by
  obtain ⟨d, hd⟩ : ∃ d, clo + 1 = d := ⟨_, rfl⟩
  have hw : IntKind.i64.wrap (clo + 1) = d := by have := of_decide_eq_true hc; rw [IntWalk.i64_in _ (by omega)]; exact hd
  rw [hd]
  have HR := Lib.hid hr
  have HO := Lib.hid ho
  have HI := Lib.hid hi
  have HC := Lib.hid hc
  clear hr ho hi hc hd
  go_enter Try.func17, Try.ntmps17
  go_upto_region 4 with (first | (go_at_call 28; refine (open_yes acc clo A c ps _ (Kd.C_alloc (Kd.C_alloc HR.out _) _) hn HO.out true HI.out).mono ?_; rintro e w2 ⟨B, rfl, hL2⟩; have hac := arg_clo w _ hL2.1) | (go_at_call 32; (with_reducible refine (isIn_walk' clo 0 11 true HC.out _).mono ?_); rintro e w4 ⟨rfl, hd4⟩; have hac4 := keepB hd4.below hac; have HL4 := Lib.hid (hL2.below hd4.below)) | fail)
  clear hL2 hac hac4
  have HB := Lib.hid HL4.out.2.1
  have HW := Lib.hid HL4.out.1
  obtain ⟨a', k', nn, hnn, hLed, hR', hne⟩ := led_own HL4.out
  have HNN := Lib.hid hnn
  have HRR := Lib.hid hR'
  have HNE := Lib.hid hne
  have hB2 : w4.cell? ⟨B, 2, none⟩ = some (.int .i64 clo) := hLed.cell rfl
  have hF2 : w4.frozen? ⟨B, 2, none⟩ = false := hLed.free 2
  have hS := hLed.set 2 (.int .i64 d)
  have y0 : (w4.setCell ⟨B, 2, none⟩ (.int .i64 d)).cell? ⟨B, 0, none⟩ = some (.int .i64 acc) := hS.cell rfl
  have y1 : (w4.setCell ⟨B, 2, none⟩ (.int .i64 d)).cell? ⟨B, 1, none⟩ = some (.slice a' nn k') := hS.cell rfl
  have y2 : (w4.setCell ⟨B, 2, none⟩ (.int .i64 d)).cell? ⟨B, 2, none⟩ = some (.int .i64 d) := hS.cell rfl
  have hBR : w.heap.size + 1 ≠ B := by have := HB.out; simp at this; omega
  have hRb : Blk (w4.setCell ⟨B, 2, none⟩ (.int .i64 d)) (w.heap.size + 1) 24 [.int .i64 0, .slice none 0 0, .int .i64 0] := by
    have h := (res_blk1 w _).belowS HW.out
    exact h.set_other ⟨B, 2, none⟩ hBR _
  have HX := Lib.hid hRb
  have HY := Lib.hid hLed
  have hre := res_facts hRb (.int .i64 acc) (.slice a' nn k') (.int .i64 d)
  have HRE := Lib.hid hre
  obtain ⟨r1, r2, r3, r4, r5, r6, r7, r8, r9, r10⟩ := hre
  clear hS hLed hRb hne hR' hnn
  go_wp2
  obtain ⟨_, _, _, _, _, _, _, _, _, r10⟩ := HRE.out
  refine bodyPost_ret (results_list (rs := [.cell 4 24, .tmp 5]) rfl (by simp) (.cell _ _ _ (0, 0) _ rfl r10 Try.underlying24 rfl (by kernel_rfl) (.tmp .nil))) rfl ?_
  have hbw : Below w.heap.size w (w4.setCell ⟨B, 2, none⟩ (.int .i64 d)) := (Below.trans (below2 w _ _) (HW.out.mono (below2 w _ _).size)).setCell (p := ⟨B, 2, none⟩) (by have := HB.out; simp at this; show w.heap.size ≤ B; omega) _
  refine ⟨_, rfl, ?_, res_below hbw (by omega) _ _ _⟩
  exact Kd.R_lower (res_keep (Kd.R_set HRR.out HY.out.heap (by decide) 2 _) HX.out _ _ _) (below2 w _ _).size
end Go.Proofs.Ytooogaogbffjfaa.Ext
end
section
/-
  Dispute: what is refused ahead of the postings.
-/
set_option linter.unusedVariables false
set_option linter.unusedSimpArgs false
namespace Go.Proofs.Ytooogaogbffjfaa.Ext
open Go.RowKit Go.Proofs.YtooogaogbffjfaaW.PrintWords Go.Proofs.YtooogaogbffjfaaW.PrintLast Go.Proofs.YtooogaogbffjfaaW.PrintMore Go.Proofs.Ytooogaogbffjfaa.PK Go.Proofs.Ytooogaogbffjfaa.Bk
attribute [local go_sem] Oper.semAt_some
theorem arg_ps (w : World) (b : Obj) {w2 : World} {acc clo : Int} {A : Option Addr} {n k : Nat} (hb : Below ((w.alloc (.cells #[.int .i64 acc, .slice A n k, .int .i64 clo] 24)).alloc b).heap.size ((w.alloc (.cells #[.int .i64 acc, .slice A n k, .int .i64 clo] 24)).alloc b) w2) :
    w2.cell? ⟨w.heap.size, 1, none⟩ = some (.slice A n k) := keepB hb (c_old (c_new _ _ _ _ _ _ rfl rfl))
theorem open_yes' (acc clo : Int) (A : Option Addr) (c n : Nat) (ps : List S27) (hl : ps.length = n) (w : World) (hr : Kd.C k27 w A n ps) (hn : n ≤ 1000000) (h : okAll acc [] ps = true) (b : Bool) (hb : inB acc clo = b) :
    Calls Try.prog 28 #[.agg #[.int .i64 acc, .slice A n c, .int .i64 clo]] w fun e w' => ∃ B, e = .returned (.tuple #[.pointer (some ⟨B, 0, none⟩), .bool b]) ∧ Ledger w w' B acc clo ps := by
  subst hl
  exact open_yes acc clo A c ps w hr hn h b hb
theorem open_no' (acc clo : Int) (A : Option Addr) (c n : Nat) (ps : List S27) (hl : ps.length = n) (w : World) (hr : Kd.C k27 w A n ps) (hn : n ≤ 1000000) (h : okAll acc [] ps = false) :
    Calls Try.prog 28 #[.agg #[.int .i64 acc, .slice A n c, .int .i64 clo]] w fun e w' => e = .returned (.tuple #[.pointer none, .bool false]) ∧ Below w.heap.size w w' := by
  subst hl
  exact open_no acc clo A c ps w hr hn h
set_option maxRecDepth 100000 in
set_option maxHeartbeats 4000000 in
theorem Dispute_no1 (acc clo : Int) (A : Option Addr) (c n : Nat) (ps : List S27) (hl : ps.length = n) (i day amount : Int) (w : World) (hr : Kd.C k27 w A n ps) (hn : n ≤ 1000000) (ho : okAll acc [] ps = false) :
    Calls Try.prog 15 #[.agg #[.int .i64 acc, .slice A n c, .int .i64 clo], .int .i64 i, .int .i64 day, .int .i64 amount] w fun e w' => e = .returned (.tuple #[.agg #[.int .i64 0, .slice none 0 0, .int .i64 0], .int .i64 240]) ∧ Below w.heap.size w w' := by
  have HR := Lib.hid hr
  have HN := Lib.hid hn
  have HL := Lib.hid hl
  have HO := Lib.hid ho
  clear hr ho hl hn
  go_enter Try.func15, Try.ntmps15
  go_wp2_with (first | (go_at_call 28; refine (open_no' acc clo A c n ps HL.out _ (Kd.C_alloc (Kd.C_alloc HR.out _) _) HN.out HO.out).mono ?_; rintro e w2 ⟨rfl, hb2⟩; have hR := (res_blk1 w _).belowS hb2; obtain ⟨r1, r2, r3, r4, r5, r6, r7, r8, r9, r10⟩ := res_facts hR (.int .i64 0) (.slice none 0 0) (.int .i64 0)) | fail)
  refine bodyPost_ret (results_list (rs := [.cell 8 24, .tmp 9]) rfl (by simp) (.cell _ _ _ (0, 0) _ rfl r10 Try.underlying24 rfl (by kernel_rfl) (.tmp .nil))) rfl ?_
  exact ⟨rfl, res_below (Below.trans (below2 w _ _) (hb2.mono (below2 w _ _).size)) (by omega) _ _ _⟩
set_option maxRecDepth 100000 in
set_option maxHeartbeats 4000000 in
theorem Dispute_no2 (acc clo : Int) (A : Option Addr) (c n : Nat) (ps : List S27) (hl : ps.length = n) (i day amount : Int) (w : World) (hr : Kd.C k27 w A n ps) (hn : n ≤ 1000000) (ho : okAll acc [] ps = true) (hi : inB acc clo = false) :
    Calls Try.prog 15 #[.agg #[.int .i64 acc, .slice A n c, .int .i64 clo], .int .i64 i, .int .i64 day, .int .i64 amount] w fun e w' => e = .returned (.tuple #[.agg #[.int .i64 0, .slice none 0 0, .int .i64 0], .int .i64 240]) ∧ Below w.heap.size w w' := by
  have HR := Lib.hid hr
  have HN := Lib.hid hn
  have HL := Lib.hid hl
  have HO := Lib.hid ho
  have HI := Lib.hid hi
  clear hr ho hi hl hn
  go_enter Try.func15, Try.ntmps15
  go_wp2_with (first | (go_at_call 28; refine (open_yes' acc clo A c n ps HL.out _ (Kd.C_alloc (Kd.C_alloc HR.out _) _) HN.out HO.out false HI.out).mono ?_; rintro e w2 ⟨B, rfl, hL2⟩; have hR := (res_blk1 w _).belowS hL2.1; obtain ⟨r1, r2, r3, r4, r5, r6, r7, r8, r9, r10⟩ := res_facts hR (.int .i64 0) (.slice none 0 0) (.int .i64 0)) | fail)
  refine bodyPost_ret (results_list (rs := [.cell 8 24, .tmp 9]) rfl (by simp) (.cell _ _ _ (0, 0) _ rfl r10 Try.underlying24 rfl (by kernel_rfl) (.tmp .nil))) rfl ?_
  exact ⟨rfl, res_below (Below.trans (below2 w _ _) (hL2.1.mono (below2 w _ _).size)) (by omega) _ _ _⟩
set_option maxRecDepth 100000 in
set_option maxHeartbeats 4000000 in
theorem Dispute_no3 (acc clo : Int) (A : Option Addr) (c n : Nat) (ps : List S27) (hl : ps.length = n) (i day amount : Int) (w : World) (hr : Kd.C k27 w A n ps) (hn : n ≤ 1000000) (ho : okAll acc [] ps = true) (hi : inB acc clo = true) (h0 : decide (i < 0) = true) :
    Calls Try.prog 15 #[.agg #[.int .i64 acc, .slice A n c, .int .i64 clo], .int .i64 i, .int .i64 day, .int .i64 amount] w fun e w' => e = .returned (.tuple #[.agg #[.int .i64 0, .slice none 0 0, .int .i64 0], .int .i64 240]) ∧ Below w.heap.size w w' := by
  have HR := Lib.hid hr
  have HN := Lib.hid hn
  have HL := Lib.hid hl
  have HO := Lib.hid ho
  have HI := Lib.hid hi
  clear hr ho hi hl hn
  go_enter Try.func15, Try.ntmps15
  go_wp2_with (first | (go_at_call 28; refine (open_yes' acc clo A c n ps HL.out _ (Kd.C_alloc (Kd.C_alloc HR.out _) _) HN.out HO.out true HI.out).mono ?_; rintro e w2 ⟨B, rfl, hL2⟩; have hR := (res_blk1 w _).belowS hL2.1; obtain ⟨r1, r2, r3, r4, r5, r6, r7, r8, r9, r10⟩ := res_facts hR (.int .i64 0) (.slice none 0 0) (.int .i64 0)) | fail)
  refine bodyPost_ret (results_list (rs := [.cell 8 24, .tmp 9]) rfl (by simp) (.cell _ _ _ (0, 0) _ rfl r10 Try.underlying24 rfl (by kernel_rfl) (.tmp .nil))) rfl ?_
  exact ⟨rfl, res_below (Below.trans (below2 w _ _) (hL2.1.mono (below2 w _ _).size)) (by omega) _ _ _⟩
set_option maxRecDepth 100000 in
set_option maxHeartbeats 4000000 in
theorem Dispute_no4 (acc clo : Int) (A : Option Addr) (c n : Nat) (ps : List S27) (hl : ps.length = n) (i day amount : Int) (w : World) (hr : Kd.C k27 w A n ps) (hn : n ≤ 1000000) (ho : okAll acc [] ps = true) (hi : inB acc clo = true) (h0 : decide (i < 0) = false) (h1 : decide ((n : Int) ≤ i) = true) :
    Calls Try.prog 15 #[.agg #[.int .i64 acc, .slice A n c, .int .i64 clo], .int .i64 i, .int .i64 day, .int .i64 amount] w fun e w' => e = .returned (.tuple #[.agg #[.int .i64 0, .slice none 0 0, .int .i64 0], .int .i64 240]) ∧ Below w.heap.size w w' := by
  have HR := Lib.hid hr
  have HN := Lib.hid hn
  have HL := Lib.hid hl
  have HO := Lib.hid ho
  have HI := Lib.hid hi
  clear hr ho hi hl hn
  go_enter Try.func15, Try.ntmps15
  go_wp2_with (first | (go_at_call 28; refine (open_yes' acc clo A c n ps HL.out _ (Kd.C_alloc (Kd.C_alloc HR.out _) _) HN.out HO.out true HI.out).mono ?_; rintro e w2 ⟨B, rfl, hL2⟩; have hps := arg_ps w _ hL2.1; have hR := (res_blk1 w _).belowS hL2.1; obtain ⟨r1, r2, r3, r4, r5, r6, r7, r8, r9, r10⟩ := res_facts hR (.int .i64 0) (.slice none 0 0) (.int .i64 0)) | fail)
  refine bodyPost_ret (results_list (rs := [.cell 8 24, .tmp 9]) rfl (by simp) (.cell _ _ _ (0, 0) _ rfl r10 Try.underlying24 rfl (by kernel_rfl) (.tmp .nil))) rfl ?_
  exact ⟨rfl, res_below (Below.trans (below2 w _ _) (hL2.1.mono (below2 w _ _).size)) (by omega) _ _ _⟩
set_option maxRecDepth 100000 in
set_option maxHeartbeats 4000000 in
theorem Dispute_no5 (acc clo : Int) (A : Option Addr) (c n : Nat) (ps : List S27) (hl : ps.length = n) (i day amount : Int) (w : World) (hr : Kd.C k27 w A n ps) (hn : n ≤ 1000000) (ho : okAll acc [] ps = true) (hi : inB acc clo = true) (h0 : decide (i < 0) = false) (h1 : decide ((n : Int) ≤ i) = false) (hc : decide (0 ≤ amount ∧ amount ≤ 1000000000000) = false) :
    Calls Try.prog 15 #[.agg #[.int .i64 acc, .slice A n c, .int .i64 clo], .int .i64 i, .int .i64 day, .int .i64 amount] w fun e w' => e = .returned (.tuple #[.agg #[.int .i64 0, .slice none 0 0, .int .i64 0], .int .i64 240]) ∧ Below w.heap.size w w' := by
  have HR := Lib.hid hr
  have HN := Lib.hid hn
  have HL := Lib.hid hl
  have HO := Lib.hid ho
  have HI := Lib.hid hi
  have HC := Lib.hid hc
  clear hr ho hi hl hn hc
  go_enter Try.func15, Try.ntmps15
  go_wp2_with (first | (go_at_call 28; refine (open_yes' acc clo A c n ps HL.out _ (Kd.C_alloc (Kd.C_alloc HR.out _) _) HN.out HO.out true HI.out).mono ?_; rintro e w2 ⟨B, rfl, hL2⟩; have hps := arg_ps w _ hL2.1) | (go_at_call 32; (with_reducible refine (isIn_walk' amount 0 1000000000000 false HC.out _).mono ?_); rintro e w4 ⟨rfl, hd4⟩; have hb4 := Below.trans hL2.1 (hd4.below.mono hL2.1.size); have hR := (res_blk1 w _).belowS hb4; obtain ⟨r1, r2, r3, r4, r5, r6, r7, r8, r9, r10⟩ := res_facts hR (.int .i64 0) (.slice none 0 0) (.int .i64 0)) | fail)
  refine bodyPost_ret (results_list (rs := [.cell 8 24, .tmp 9]) rfl (by simp) (.cell _ _ _ (0, 0) _ rfl r10 Try.underlying24 rfl (by kernel_rfl) (.tmp .nil))) rfl ?_
  exact ⟨rfl, res_below (Below.trans (below2 w _ _) (hb4.mono (below2 w _ _).size)) (by omega) _ _ _⟩
end Go.Proofs.Ytooogaogbffjfaa.Ext
end
section
/-
  Dispute: the postings.
-/
set_option linter.unusedVariables false
set_option linter.unusedSimpArgs false
namespace Go.Proofs.Ytooogaogbffjfaa.Ext
open Go.RowKit Go.Proofs.YtooogaogbffjfaaW.PrintWords Go.Proofs.YtooogaogbffjfaaW.PrintLast Go.Proofs.YtooogaogbffjfaaW.PrintMore Go.Proofs.Ytooogaogbffjfaa.PK Go.Proofs.Ytooogaogbffjfaa.Bk
attribute [local go_sem] Oper.semAt_some
def backP (p : S27) (o : Nat) (day : Int) : S27 := ⟨3, day, p.f3, p.f2, p.f4, p.f5, o⟩
def newP (p : S27) (day amount : Int) : S27 := ⟨p.f0, day, p.f2, p.f3, amount, p.f5, p.f6⟩
def dispW (w4 : World) (p : S27) (o : Nat) (day : Int) : World := (w4.alloc (.cells #[.int .i64 p.f0, .int .i64 p.f1, .int .i64 p.f2, .int .i64 p.f3, .int .i64 p.f4, .int .i64 p.f5, .int .i64 p.f6] 27)).alloc (.cells #[.int .i64 3, .int .i64 day, .int .i64 p.f3, .int .i64 p.f2, .int .i64 p.f4, .int .i64 p.f5, .int .i64 (o : Int)] 27)
theorem disp_mem (w4 : World) (p : S27) (o : Nat) (day amount : Int) : (dispW w4 p o day).cell? ⟨w4.heap.size, 1, none⟩ = some (.int .i64 p.f1) ∧ (dispW w4 p o day).frozen? ⟨w4.heap.size, 1, none⟩ = false ∧
    ((dispW w4 p o day).setCell ⟨w4.heap.size, 1, none⟩ (.int .i64 day)).cell? ⟨w4.heap.size, 4, none⟩ = some (.int .i64 p.f4) ∧ ((dispW w4 p o day).setCell ⟨w4.heap.size, 1, none⟩ (.int .i64 day)).frozen? ⟨w4.heap.size, 4, none⟩ = false ∧
    Blk (((dispW w4 p o day).setCell ⟨w4.heap.size, 1, none⟩ (.int .i64 day)).setCell ⟨w4.heap.size, 4, none⟩ (.int .i64 amount)) w4.heap.size 27 (pcells (newP p day amount)) ∧ Blk (((dispW w4 p o day).setCell ⟨w4.heap.size, 1, none⟩ (.int .i64 day)).setCell ⟨w4.heap.size, 4, none⟩ (.int .i64 amount)) (w4.heap.size + 1) 27 (pcells (backP p o day)) ∧
    Below w4.heap.size w4 (((dispW w4 p o day).setCell ⟨w4.heap.size, 1, none⟩ (.int .i64 day)).setCell ⟨w4.heap.size, 4, none⟩ (.int .i64 amount)) := by
  have h1 : Blk (dispW w4 p o day) w4.heap.size 27 (pcells p) := (Blk.new w4 27 (pcells p)).alloc _
  have h2 : Blk (dispW w4 p o day) (w4.heap.size + 1) 27 (pcells (backP p o day)) := by
    have h := Blk.new (w4.alloc (.cells #[.int .i64 p.f0, .int .i64 p.f1, .int .i64 p.f2, .int .i64 p.f3, .int .i64 p.f4, .int .i64 p.f5, .int .i64 p.f6] 27)) 27 (pcells (backP p o day))
    rw [show (w4.alloc (.cells #[.int .i64 p.f0, .int .i64 p.f1, .int .i64 p.f2, .int .i64 p.f3, .int .i64 p.f4, .int .i64 p.f5, .int .i64 p.f6] 27)).heap.size = w4.heap.size + 1 by simp] at h
    exact h
  have h3 := h1.set 1 (.int .i64 day)
  have hb : Below w4.heap.size w4 (dispW w4 p o day) := below2 w4 _ _
  exact ⟨h1.cell rfl, h1.free 1, h3.cell rfl, h3.free 4, h3.set 4 _, (h2.set_other ⟨w4.heap.size, 1, none⟩ (by simp) _).set_other ⟨w4.heap.size, 4, none⟩ (by simp) _, (hb.setCell (p := ⟨w4.heap.size, 1, none⟩) (Nat.le_refl _) _).setCell (p := ⟨w4.heap.size, 4, none⟩) (Nat.le_refl _) _⟩
theorem pc_cells {w : World} {B : Nat} {t : TypeId} {p : S27} (h : Blk w B t (pcells p)) : w.cell? ⟨B, 0, none⟩ = some (.int .i64 p.f0) ∧ w.cell? ⟨B, 1, none⟩ = some (.int .i64 p.f1) ∧ w.cell? ⟨B, 2, none⟩ = some (.int .i64 p.f2) ∧ w.cell? ⟨B, 3, none⟩ = some (.int .i64 p.f3) ∧ w.cell? ⟨B, 4, none⟩ = some (.int .i64 p.f4) ∧ w.cell? ⟨B, 5, none⟩ = some (.int .i64 p.f5) ∧ w.cell? ⟨B, 6, none⟩ = some (.int .i64 p.f6) :=
  ⟨h.cell rfl, h.cell rfl, h.cell rfl, h.cell rfl, h.cell rfl, h.cell rfl, h.cell rfl⟩
theorem bk_cells {w : World} {B : Nat} {t : TypeId} {p : S27} {o : Nat} {day : Int} (h : Blk w B t (pcells (backP p o day))) : w.cell? ⟨B, 0, none⟩ = some (.int .i64 3) ∧ w.cell? ⟨B, 1, none⟩ = some (.int .i64 day) ∧ w.cell? ⟨B, 2, none⟩ = some (.int .i64 p.f3) ∧ w.cell? ⟨B, 3, none⟩ = some (.int .i64 p.f2) ∧ w.cell? ⟨B, 4, none⟩ = some (.int .i64 p.f4) ∧ w.cell? ⟨B, 5, none⟩ = some (.int .i64 p.f5) ∧ w.cell? ⟨B, 6, none⟩ = some (.int .i64 (o : Int)) := pc_cells h
theorem nw_cells {w : World} {B : Nat} {t : TypeId} {p : S27} {day amount : Int} (h : Blk w B t (pcells (newP p day amount))) : w.cell? ⟨B, 0, none⟩ = some (.int .i64 p.f0) ∧ w.cell? ⟨B, 1, none⟩ = some (.int .i64 day) ∧ w.cell? ⟨B, 2, none⟩ = some (.int .i64 p.f2) ∧ w.cell? ⟨B, 3, none⟩ = some (.int .i64 p.f3) ∧ w.cell? ⟨B, 4, none⟩ = some (.int .i64 amount) ∧ w.cell? ⟨B, 5, none⟩ = some (.int .i64 p.f5) ∧ w.cell? ⟨B, 6, none⟩ = some (.int .i64 p.f6) := pc_cells h
theorem disp_own {ws w4 w6 : World} {B : Nat} {acc clo : Int} {ps : List S27} (h : Ledger ws w4 B acc clo ps) (hb : Below w4.heap.size w4 w6) (v : Value) (hv : w6.cell? ⟨B, 1, none⟩ = some v) : some w4.heap.size ≠ v.ownBlock := by
  obtain ⟨_, _, v0, h1, h2, _⟩ := h
  have h3 : w4.cell? ⟨B, 1, none⟩ = some v0 := h1.cell rfl
  rw [keepB hb h3] at hv
  obtain rfl := Option.some.inj hv
  exact fun e => Nat.lt_irrefl _ (Kd.R_lt h2 _ e.symm)
theorem post_len {acc clo : Int} {ps : List S27} {p : S27} (h : postB acc clo ps p = true) : (ps ++ [p]).length ≤ 200 := by
  unfold postB at h
  rw [Bool.and_eq_true] at h
  have := next_len h.2
  simp; omega
theorem post_back (ws w : World) (B : Nat) (acc clo : Int) (ps : List S27) (p : S27) (o : Nat) (day : Int) (hL : Ledger ws w B acc clo ps) (hps : ps.length ≤ 200) (hc : 0 ≤ clo ∧ clo ≤ 12) (r : Bool) (hr : postB acc clo ps (backP p o day) = r) :
    Calls Try.prog 29 #[.pointer (some ⟨B, 0, none⟩), .agg #[.int .i64 3, .int .i64 day, .int .i64 p.f3, .int .i64 p.f2, .int .i64 p.f4, .int .i64 p.f5, .int .i64 (o : Int)]] w fun e w' => e = .returned (.bool r) ∧ Ledger ws w' B acc clo (if r then ps ++ [backP p o day] else ps) ∧ Fram w w' B :=
  post_frame ws w B acc clo ps (backP p o day) hL hps hc r hr
theorem post_new (ws w : World) (B : Nat) (acc clo : Int) (ps : List S27) (p : S27) (day amount : Int) (hL : Ledger ws w B acc clo ps) (hps : ps.length ≤ 200) (hc : 0 ≤ clo ∧ clo ≤ 12) (r : Bool) (hr : postB acc clo ps (newP p day amount) = r) :
    Calls Try.prog 29 #[.pointer (some ⟨B, 0, none⟩), .agg #[.int .i64 p.f0, .int .i64 day, .int .i64 p.f2, .int .i64 p.f3, .int .i64 amount, .int .i64 p.f5, .int .i64 p.f6]] w fun e w' => e = .returned (.bool r) ∧ Ledger ws w' B acc clo (if r then ps ++ [newP p day amount] else ps) :=
  post_walk ws w B acc clo ps (newP p day amount) hL hps hc r hr
set_option maxRecDepth 100000 in
set_option maxHeartbeats 4000000 in
theorem Dispute_no6 (acc clo : Int) (A : Option Addr) (c n : Nat) (ps : List S27) (hl : ps.length = n) (i day amount : Int) (w : World) (hr : Kd.C k27 w A n ps) (hn : n ≤ 1000000) (ho : okAll acc [] ps = true) (hi : inB acc clo = true) (o : Nat) (hio : i = (o : Int)) (h0 : decide (i < 0) = false) (h1 : decide ((n : Int) ≤ i) = false) (hc : decide (0 ≤ amount ∧ amount ≤ 1000000000000) = true) (p : S27) (hp : rd_T27 ps (o : Int) = p) (hb1 : postB acc clo ps (backP p o day) = false) :
    Calls Try.prog 15 #[.agg #[.int .i64 acc, .slice A n c, .int .i64 clo], .int .i64 i, .int .i64 day, .int .i64 amount] w fun e w' => e = .returned (.tuple #[.agg #[.int .i64 0, .slice none 0 0, .int .i64 0], .int .i64 240]) ∧ Below w.heap.size w w' := by
  have HR := Lib.hid hr
  have HN := Lib.hid hn
  have HL := Lib.hid hl
  have HO := Lib.hid ho
  have HI := Lib.hid hi
  have HC := Lib.hid hc
  have HPS := Lib.hid (okAll_200 ho)
  have HP := Lib.hid hp
  have HIO := Lib.hid hio
  have HB1 := Lib.hid hb1
  clear hb1
  clear hr ho hi hl hn hc hp hio
  go_enter Try.func15, Try.ntmps15
  go_upto_region 4 with (first | (go_at_call 28; refine (open_yes' acc clo A c n ps HL.out _ (Kd.C_alloc (Kd.C_alloc HR.out _) _) HN.out HO.out true HI.out).mono ?_; rintro e w2 ⟨B, rfl, hL2⟩; have hps := arg_ps w _ hL2.1) | (go_at_call 32; (with_reducible refine (isIn_walk' amount 0 1000000000000 true HC.out _).mono ?_); rintro e w4 ⟨rfl, hd4⟩; have hp4 := keepB hd4.below hps; have HL4 := Lib.hid (hL2.below hd4.below)) | fail)
  clear hL2 hps
  obtain rfl := HIO.out
  clear HIO
  have HC4 := Lib.hid (Kd.C_below (Kd.C_alloc (Kd.C_alloc HR.out _) _) HL4.out.1)
  obtain ⟨ad, rfl, x0, x1, x2, x3, x4, x5, x6⟩ := at_T27 HC4.out (o : Int) (by omega) (by have := of_decide_eq_false h1; omega)
  rw [HP.out] at x0 x1 x2 x3 x4 x5 x6
  rw [Int.toNat_natCast] at x0 x1 x2 x3 x4 x5 x6
  have hon : (o : Int) < (n : Int) := by have := of_decide_eq_false h1; omega
  go_upto_region 6 with (first | fail)
  clear x0 x1 x2 x3 x4 x5 x6
  obtain ⟨m1, m2, m3, m4, m5, m6, m7⟩ := disp_mem w4 p o day amount
  change Code.wp _ _ _ _ (dispW w4 p o day)
  have HM5 := Lib.hid m5
  have HM6 := Lib.hid m6
  have HL6 := Lib.hid (HL4.out.below m7)
  clear m5 m6
  generalize dispW w4 p o day = w5 at *
  go_upto_region 7 with (first | fail)
  have HQB := Lib.hid (show w4.heap.size ≠ B from fun e => by obtain ⟨_, _, _, hld, _⟩ := HL4.out; have := hld.lt; omega)
  have HQV : Hid (∀ v, ((w5.setCell ⟨w4.heap.size, 1, none⟩ (.int .i64 day)).setCell ⟨w4.heap.size, 4, none⟩ (.int .i64 amount)).cell? ⟨B, 1, none⟩ = some v → some w4.heap.size ≠ v.ownBlock) := Lib.hid (disp_own HL4.out m7)
  generalize (w5.setCell ⟨w4.heap.size, 1, none⟩ (.int .i64 day)).setCell ⟨w4.heap.size, 4, none⟩ (.int .i64 amount) = w6 at *
  generalize w4.heap.size = q at *
  clear m1 m2 m3 m4 m7 hp4
  obtain ⟨z0, z1, z2, z3, z4, z5, z6⟩ := bk_cells HM6.out
  go_wp2_with (first | (go_at_call 29; (with_reducible refine (post_back _ _ B acc clo ps p o day HL6.out HPS.out (clo_of HI.out) false HB1.out).mono ?_); rintro e w7 ⟨rfl, hL7, hFr7⟩; have hR := (res_blk1 w _).belowS hL7.1; obtain ⟨r1, r2, r3, r4, r5, r6, r7, r8, r9, r10⟩ := res_facts hR (.int .i64 0) (.slice none 0 0) (.int .i64 0)) | fail)
  refine bodyPost_ret (results_list (rs := [.cell 8 24, .tmp 9]) rfl (by simp) (.cell _ _ _ (0, 0) _ rfl r10 Try.underlying24 rfl (by kernel_rfl) (.tmp .nil))) rfl ?_
  exact ⟨rfl, res_below (Below.trans (below2 w _ _) (hL7.1.mono (below2 w _ _).size)) (by omega) _ _ _⟩
set_option maxRecDepth 100000 in
set_option maxHeartbeats 4000000 in
theorem Dispute_no7 (acc clo : Int) (A : Option Addr) (c n : Nat) (ps : List S27) (hl : ps.length = n) (i day amount : Int) (w : World) (hr : Kd.C k27 w A n ps) (hn : n ≤ 1000000) (ho : okAll acc [] ps = true) (hi : inB acc clo = true) (o : Nat) (hio : i = (o : Int)) (h0 : decide (i < 0) = false) (h1 : decide ((n : Int) ≤ i) = false) (hc : decide (0 ≤ amount ∧ amount ≤ 1000000000000) = true) (p : S27) (hp : rd_T27 ps (o : Int) = p) (hb1 : postB acc clo ps (backP p o day) = true) (hap : decide (0 < amount) = true) (hb2 : postB acc clo (ps ++ [backP p o day]) (newP p day amount) = false) :
    Calls Try.prog 15 #[.agg #[.int .i64 acc, .slice A n c, .int .i64 clo], .int .i64 i, .int .i64 day, .int .i64 amount] w fun e w' => e = .returned (.tuple #[.agg #[.int .i64 0, .slice none 0 0, .int .i64 0], .int .i64 240]) ∧ Below w.heap.size w w' := by
  have HR := Lib.hid hr
  have HN := Lib.hid hn
  have HL := Lib.hid hl
  have HO := Lib.hid ho
  have HI := Lib.hid hi
  have HC := Lib.hid hc
  have HPS := Lib.hid (okAll_200 ho)
  have HP := Lib.hid hp
  have HIO := Lib.hid hio
  have HB1 := Lib.hid hb1
  have HB2 := Lib.hid hb2
  have HPS2 := Lib.hid (post_len hb1)
  clear hb1 hb2
  clear hr ho hi hl hn hc hp hio
  go_enter Try.func15, Try.ntmps15
  go_upto_region 4 with (first | (go_at_call 28; refine (open_yes' acc clo A c n ps HL.out _ (Kd.C_alloc (Kd.C_alloc HR.out _) _) HN.out HO.out true HI.out).mono ?_; rintro e w2 ⟨B, rfl, hL2⟩; have hps := arg_ps w _ hL2.1) | (go_at_call 32; (with_reducible refine (isIn_walk' amount 0 1000000000000 true HC.out _).mono ?_); rintro e w4 ⟨rfl, hd4⟩; have hp4 := keepB hd4.below hps; have HL4 := Lib.hid (hL2.below hd4.below)) | fail)
  clear hL2 hps
  obtain rfl := HIO.out
  clear HIO
  have HC4 := Lib.hid (Kd.C_below (Kd.C_alloc (Kd.C_alloc HR.out _) _) HL4.out.1)
  obtain ⟨ad, rfl, x0, x1, x2, x3, x4, x5, x6⟩ := at_T27 HC4.out (o : Int) (by omega) (by have := of_decide_eq_false h1; omega)
  rw [HP.out] at x0 x1 x2 x3 x4 x5 x6
  rw [Int.toNat_natCast] at x0 x1 x2 x3 x4 x5 x6
  have hon : (o : Int) < (n : Int) := by have := of_decide_eq_false h1; omega
  go_upto_region 6 with (first | fail)
  clear x0 x1 x2 x3 x4 x5 x6
  obtain ⟨m1, m2, m3, m4, m5, m6, m7⟩ := disp_mem w4 p o day amount
  change Code.wp _ _ _ _ (dispW w4 p o day)
  have HM5 := Lib.hid m5
  have HM6 := Lib.hid m6
  have HL6 := Lib.hid (HL4.out.below m7)
  clear m5 m6
  generalize dispW w4 p o day = w5 at *
  go_upto_region 7 with (first | fail)
  have HQB := Lib.hid (show w4.heap.size ≠ B from fun e => by obtain ⟨_, _, _, hld, _⟩ := HL4.out; have := hld.lt; omega)
  have HQV : Hid (∀ v, ((w5.setCell ⟨w4.heap.size, 1, none⟩ (.int .i64 day)).setCell ⟨w4.heap.size, 4, none⟩ (.int .i64 amount)).cell? ⟨B, 1, none⟩ = some v → some w4.heap.size ≠ v.ownBlock) := Lib.hid (disp_own HL4.out m7)
  generalize (w5.setCell ⟨w4.heap.size, 1, none⟩ (.int .i64 day)).setCell ⟨w4.heap.size, 4, none⟩ (.int .i64 amount) = w6 at *
  generalize w4.heap.size = q at *
  clear m1 m2 m3 m4 m7 hp4
  obtain ⟨z0, z1, z2, z3, z4, z5, z6⟩ := bk_cells HM6.out
  go_wp2_with (first | (go_at_call 29; (with_reducible refine (post_back _ _ B acc clo ps p o day HL6.out HPS.out (clo_of HI.out) true HB1.out).mono ?_); rintro e w7 ⟨rfl, hL7, hFr7⟩; have HL7 : Hid (Ledger _ w7 B acc clo (ps ++ [backP p o day])) := Lib.hid hL7; clear hL7; clear z0 z1 z2 z3 z4 z5 z6; obtain ⟨z0, z1, z2, z3, z4, z5, z6⟩ := nw_cells (hFr7 _ _ _ HM5.out HQB.out HQV.out); clear hFr7) | (go_at_call 29; (with_reducible refine (post_new _ _ B acc clo (ps ++ [backP p o day]) p day amount HL7.out HPS2.out (clo_of HI.out) false HB2.out).mono ?_); rintro e w8 ⟨rfl, hL8⟩; have hR := (res_blk1 w _).belowS hL8.1; obtain ⟨r1, r2, r3, r4, r5, r6, r7, r8, r9, r10⟩ := res_facts hR (.int .i64 0) (.slice none 0 0) (.int .i64 0)) | fail)
  refine bodyPost_ret (results_list (rs := [.cell 8 24, .tmp 9]) rfl (by simp) (.cell _ _ _ (0, 0) _ rfl r10 Try.underlying24 rfl (by kernel_rfl) (.tmp .nil))) rfl ?_
  exact ⟨rfl, res_below (Below.trans (below2 w _ _) (hL8.1.mono (below2 w _ _).size)) (by omega) _ _ _⟩
set_option maxRecDepth 100000 in
set_option maxHeartbeats 4000000 in
theorem Dispute_yes1 (acc clo : Int) (A : Option Addr) (c n : Nat) (ps : List S27) (hl : ps.length = n) (i day amount : Int) (w : World) (hr : Kd.C k27 w A n ps) (hn : n ≤ 1000000) (ho : okAll acc [] ps = true) (hi : inB acc clo = true) (o : Nat) (hio : i = (o : Int)) (h0 : decide (i < 0) = false) (h1 : decide ((n : Int) ≤ i) = false) (hc : decide (0 ≤ amount ∧ amount ≤ 1000000000000) = true) (p : S27) (hp : rd_T27 ps (o : Int) = p) (h00 : amount = 0) (hb1 : postB acc clo ps (backP p o day) = true) :
    Calls Try.prog 15 #[.agg #[.int .i64 acc, .slice A n c, .int .i64 clo], .int .i64 i, .int .i64 day, .int .i64 amount] w fun e w' => ∃ v1 : Value, e = .returned (.tuple #[.agg #[.int .i64 acc, v1, .int .i64 clo], .int .i64 0]) ∧ Kd.R k27 27 w' w.heap.size (fun _ => True) v1 (ps ++ [backP p o day]) ∧ Below w.heap.size w w' := by
  have HR := Lib.hid hr
  have HN := Lib.hid hn
  have HL := Lib.hid hl
  have HO := Lib.hid ho
  have HI := Lib.hid hi
  have HC := Lib.hid hc
  have HPS := Lib.hid (okAll_200 ho)
  have HP := Lib.hid hp
  have HIO := Lib.hid hio
  have HB1 := Lib.hid hb1
  clear hb1
  have H00 := Lib.hid h00
  clear h00
  clear hr ho hi hl hn hc hp hio
  go_enter Try.func15, Try.ntmps15
  go_upto_region 4 with (first | (go_at_call 28; refine (open_yes' acc clo A c n ps HL.out _ (Kd.C_alloc (Kd.C_alloc HR.out _) _) HN.out HO.out true HI.out).mono ?_; rintro e w2 ⟨B, rfl, hL2⟩; have hps := arg_ps w _ hL2.1) | (go_at_call 32; (with_reducible refine (isIn_walk' amount 0 1000000000000 true HC.out _).mono ?_); rintro e w4 ⟨rfl, hd4⟩; have hp4 := keepB hd4.below hps; have HL4 := Lib.hid (hL2.below hd4.below)) | fail)
  clear hL2 hps
  obtain rfl := HIO.out
  clear HIO
  have HC4 := Lib.hid (Kd.C_below (Kd.C_alloc (Kd.C_alloc HR.out _) _) HL4.out.1)
  obtain ⟨ad, rfl, x0, x1, x2, x3, x4, x5, x6⟩ := at_T27 HC4.out (o : Int) (by omega) (by have := of_decide_eq_false h1; omega)
  rw [HP.out] at x0 x1 x2 x3 x4 x5 x6
  rw [Int.toNat_natCast] at x0 x1 x2 x3 x4 x5 x6
  have hon : (o : Int) < (n : Int) := by have := of_decide_eq_false h1; omega
  go_upto_region 6 with (first | fail)
  clear x0 x1 x2 x3 x4 x5 x6
  obtain ⟨m1, m2, m3, m4, m5, m6, m7⟩ := disp_mem w4 p o day amount
  change Code.wp _ _ _ _ (dispW w4 p o day)
  have HM5 := Lib.hid m5
  have HM6 := Lib.hid m6
  have HL6 := Lib.hid (HL4.out.below m7)
  clear m5 m6
  generalize dispW w4 p o day = w5 at *
  go_upto_region 7 with (first | fail)
  have HQB := Lib.hid (show w4.heap.size ≠ B from fun e => by obtain ⟨_, _, _, hld, _⟩ := HL4.out; have := hld.lt; omega)
  have HQV : Hid (∀ v, ((w5.setCell ⟨w4.heap.size, 1, none⟩ (.int .i64 day)).setCell ⟨w4.heap.size, 4, none⟩ (.int .i64 amount)).cell? ⟨B, 1, none⟩ = some v → some w4.heap.size ≠ v.ownBlock) := Lib.hid (disp_own HL4.out m7)
  generalize (w5.setCell ⟨w4.heap.size, 1, none⟩ (.int .i64 day)).setCell ⟨w4.heap.size, 4, none⟩ (.int .i64 amount) = w6 at *
  generalize w4.heap.size = q at *
  clear m1 m2 m3 m4 m7 hp4
  obtain ⟨z0, z1, z2, z3, z4, z5, z6⟩ := bk_cells HM6.out
  obtain rfl := H00.out
  go_upto_region 9 with (first | (go_at_call 29; (with_reducible refine (post_back _ _ B acc clo ps p o day HL6.out HPS.out (clo_of HI.out) true HB1.out).mono ?_); rintro e w7 ⟨rfl, hL7, hFr7⟩; have HL7 : Hid (Ledger _ w7 B acc clo (ps ++ [backP p o day])) := Lib.hid hL7; clear hL7) | fail)
  have HB := Lib.hid HL7.out.2.1
  have HW := Lib.hid HL7.out.1
  obtain ⟨a', k', nn, hnn, hLed, hR', hne⟩ := led_own HL7.out
  have HNN := Lib.hid hnn
  have HRR := Lib.hid hR'
  have y0 : w7.cell? ⟨B, 0, none⟩ = some (.int .i64 acc) := hLed.cell rfl
  have y1 : w7.cell? ⟨B, 1, none⟩ = some (.slice a' nn k') := hLed.cell rfl
  have y2 : w7.cell? ⟨B, 2, none⟩ = some (.int .i64 clo) := hLed.cell rfl
  have hRb : Blk w7 (w.heap.size + 1) 24 [.int .i64 0, .slice none 0 0, .int .i64 0] := by
    have h := (res_blk1 w _).belowS HW.out
    exact h
  have HX := Lib.hid hRb
  have hre := res_facts hRb (.int .i64 acc) (.slice a' nn k') (.int .i64 clo)
  have HRE := Lib.hid hre
  obtain ⟨r1, r2, r3, r4, r5, r6, r7, r8, r9, r10⟩ := hre
  clear hLed hRb hne hR' hnn
  go_wp2
  obtain ⟨_, _, _, _, _, _, _, _, _, r10⟩ := HRE.out
  refine bodyPost_ret (results_list (rs := [.cell 8 24, .tmp 9]) rfl (by simp) (.cell _ _ _ (0, 0) _ rfl r10 Try.underlying24 rfl (by kernel_rfl) (.tmp .nil))) rfl ?_
  refine ⟨_, rfl, ?_, res_below (Below.trans (below2 w _ _) (HW.out.mono (below2 w _ _).size)) (by omega) _ _ _⟩
  exact Kd.R_lower (res_keep HRR.out HX.out _ _ _) (below2 w _ _).size
set_option maxRecDepth 100000 in
set_option maxHeartbeats 4000000 in
theorem Dispute_yes2 (acc clo : Int) (A : Option Addr) (c n : Nat) (ps : List S27) (hl : ps.length = n) (i day amount : Int) (w : World) (hr : Kd.C k27 w A n ps) (hn : n ≤ 1000000) (ho : okAll acc [] ps = true) (hi : inB acc clo = true) (o : Nat) (hio : i = (o : Int)) (h0 : decide (i < 0) = false) (h1 : decide ((n : Int) ≤ i) = false) (hc : decide (0 ≤ amount ∧ amount ≤ 1000000000000) = true) (p : S27) (hp : rd_T27 ps (o : Int) = p) (hb1 : postB acc clo ps (backP p o day) = true) (hap : decide (0 < amount) = true) (hb2 : postB acc clo (ps ++ [backP p o day]) (newP p day amount) = true) :
    Calls Try.prog 15 #[.agg #[.int .i64 acc, .slice A n c, .int .i64 clo], .int .i64 i, .int .i64 day, .int .i64 amount] w fun e w' => ∃ v1 : Value, e = .returned (.tuple #[.agg #[.int .i64 acc, v1, .int .i64 clo], .int .i64 0]) ∧ Kd.R k27 27 w' w.heap.size (fun _ => True) v1 (ps ++ [backP p o day] ++ [newP p day amount]) ∧ Below w.heap.size w w' := by
  have HR := Lib.hid hr
  have HN := Lib.hid hn
  have HL := Lib.hid hl
  have HO := Lib.hid ho
  have HI := Lib.hid hi
  have HC := Lib.hid hc
  have HPS := Lib.hid (okAll_200 ho)
  have HP := Lib.hid hp
  have HIO := Lib.hid hio
  have HB1 := Lib.hid hb1
  have HB2 := Lib.hid hb2
  have HPS2 := Lib.hid (post_len hb1)
  clear hb1 hb2
  clear hr ho hi hl hn hc hp hio
  go_enter Try.func15, Try.ntmps15
  go_upto_region 4 with (first | (go_at_call 28; refine (open_yes' acc clo A c n ps HL.out _ (Kd.C_alloc (Kd.C_alloc HR.out _) _) HN.out HO.out true HI.out).mono ?_; rintro e w2 ⟨B, rfl, hL2⟩; have hps := arg_ps w _ hL2.1) | (go_at_call 32; (with_reducible refine (isIn_walk' amount 0 1000000000000 true HC.out _).mono ?_); rintro e w4 ⟨rfl, hd4⟩; have hp4 := keepB hd4.below hps; have HL4 := Lib.hid (hL2.below hd4.below)) | fail)
  clear hL2 hps
  obtain rfl := HIO.out
  clear HIO
  have HC4 := Lib.hid (Kd.C_below (Kd.C_alloc (Kd.C_alloc HR.out _) _) HL4.out.1)
  obtain ⟨ad, rfl, x0, x1, x2, x3, x4, x5, x6⟩ := at_T27 HC4.out (o : Int) (by omega) (by have := of_decide_eq_false h1; omega)
  rw [HP.out] at x0 x1 x2 x3 x4 x5 x6
  rw [Int.toNat_natCast] at x0 x1 x2 x3 x4 x5 x6
  have hon : (o : Int) < (n : Int) := by have := of_decide_eq_false h1; omega
  go_upto_region 6 with (first | fail)
  clear x0 x1 x2 x3 x4 x5 x6
  obtain ⟨m1, m2, m3, m4, m5, m6, m7⟩ := disp_mem w4 p o day amount
  change Code.wp _ _ _ _ (dispW w4 p o day)
  have HM5 := Lib.hid m5
  have HM6 := Lib.hid m6
  have HL6 := Lib.hid (HL4.out.below m7)
  clear m5 m6
  generalize dispW w4 p o day = w5 at *
  go_upto_region 7 with (first | fail)
  have HQB := Lib.hid (show w4.heap.size ≠ B from fun e => by obtain ⟨_, _, _, hld, _⟩ := HL4.out; have := hld.lt; omega)
  have HQV : Hid (∀ v, ((w5.setCell ⟨w4.heap.size, 1, none⟩ (.int .i64 day)).setCell ⟨w4.heap.size, 4, none⟩ (.int .i64 amount)).cell? ⟨B, 1, none⟩ = some v → some w4.heap.size ≠ v.ownBlock) := Lib.hid (disp_own HL4.out m7)
  generalize (w5.setCell ⟨w4.heap.size, 1, none⟩ (.int .i64 day)).setCell ⟨w4.heap.size, 4, none⟩ (.int .i64 amount) = w6 at *
  generalize w4.heap.size = q at *
  clear m1 m2 m3 m4 m7 hp4
  obtain ⟨z0, z1, z2, z3, z4, z5, z6⟩ := bk_cells HM6.out
  go_upto_region 9 with (first | (go_at_call 29; (with_reducible refine (post_back _ _ B acc clo ps p o day HL6.out HPS.out (clo_of HI.out) true HB1.out).mono ?_); rintro e w7 ⟨rfl, hL7, hFr7⟩; have HL7 : Hid (Ledger _ w7 B acc clo (ps ++ [backP p o day])) := Lib.hid hL7; clear hL7; clear z0 z1 z2 z3 z4 z5 z6; obtain ⟨z0, z1, z2, z3, z4, z5, z6⟩ := nw_cells (hFr7 _ _ _ HM5.out HQB.out HQV.out); clear hFr7) | (go_at_call 29; (with_reducible refine (post_new _ _ B acc clo (ps ++ [backP p o day]) p day amount HL7.out HPS2.out (clo_of HI.out) true HB2.out).mono ?_); rintro e w8 ⟨rfl, hL8⟩; have HL8 : Hid (Ledger _ w8 B acc clo (ps ++ [backP p o day] ++ [newP p day amount])) := Lib.hid hL8; clear hL8) | fail)
  have HB := Lib.hid HL8.out.2.1
  have HW := Lib.hid HL8.out.1
  obtain ⟨a', k', nn, hnn, hLed, hR', hne⟩ := led_own HL8.out
  have HNN := Lib.hid hnn
  have HRR := Lib.hid hR'
  have y0 : w8.cell? ⟨B, 0, none⟩ = some (.int .i64 acc) := hLed.cell rfl
  have y1 : w8.cell? ⟨B, 1, none⟩ = some (.slice a' nn k') := hLed.cell rfl
  have y2 : w8.cell? ⟨B, 2, none⟩ = some (.int .i64 clo) := hLed.cell rfl
  have hRb : Blk w8 (w.heap.size + 1) 24 [.int .i64 0, .slice none 0 0, .int .i64 0] := by
    have h := (res_blk1 w _).belowS HW.out
    exact h
  have HX := Lib.hid hRb
  have hre := res_facts hRb (.int .i64 acc) (.slice a' nn k') (.int .i64 clo)
  have HRE := Lib.hid hre
  obtain ⟨r1, r2, r3, r4, r5, r6, r7, r8, r9, r10⟩ := hre
  clear hLed hRb hne hR' hnn
  go_wp2
  obtain ⟨_, _, _, _, _, _, _, _, _, r10⟩ := HRE.out
  refine bodyPost_ret (results_list (rs := [.cell 8 24, .tmp 9]) rfl (by simp) (.cell _ _ _ (0, 0) _ rfl r10 Try.underlying24 rfl (by kernel_rfl) (.tmp .nil))) rfl ?_
  refine ⟨_, rfl, ?_, res_below (Below.trans (below2 w _ _) (HW.out.mono (below2 w _ _).size)) (by omega) _ _ _⟩
  exact Kd.R_lower (res_keep HRR.out HX.out _ _ _) (below2 w _ _).size
end Go.Proofs.Ytooogaogbffjfaa.Ext
end
