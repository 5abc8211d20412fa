import Derived.Test.YtooogaogbffjfaaMBookKeepsan
import Derived.Outline
/-
  Texts of this claim, one behind the other: what they prove stands above each.
-/
section
/-
  Statement: the walk.
-/
set_option linter.unusedVariables false
set_option linter.unusedSimpArgs false
namespace Go.Proofs.Ytooogaogbffjfaa.Ext
open Go.RowKit Go.Shelf Go.Proofs.YtooogaogbffjfaaW.PrintWords Go.Proofs.YtooogaogbffjfaaW.PrintLast Go.Proofs.YtooogaogbffjfaaW.PrintMore Go.Proofs.Ytooogaogbffjfaa.PK Go.Proofs.Ytooogaogbffjfaa.Bk
attribute [local go_sem] Oper.semAt_some
theorem R_putObj {α : Type} {d : Kd α} {e base : Nat} {w : World} {v : Value} {xs : List α} {D : Nat} (h : Kd.R d e w base (fun _ => True) v xs) (hD : D < base) (o : Obj) : Kd.R d e (w.putObj D o) base (fun _ => True) v xs :=
  Kd.R_mono (Kd.R_move (Kd.R_bound h) (fun k hk => World.putObj_heap_other (by have := hk.2.1; omega))) (fun _ _ => trivial)
theorem month_cell (w : World) (acc clo month : Int) (A : Option Addr) (n k : Nat) {w2 : World} (hb : Below ((w.alloc (.cells #[.int .i64 acc, .slice A n k, .int .i64 clo] 24)).alloc (.cells #[.int .i64 month] 3)).heap.size ((w.alloc (.cells #[.int .i64 acc, .slice A n k, .int .i64 clo] 24)).alloc (.cells #[.int .i64 month] 3)) w2) :
    w2.cell? ⟨w.heap.size + 1, 0, none⟩ = some (.int .i64 month) := keepB hb (c_new _ _ _ _ _ _ rfl (by simp))
theorem acc_cell (w : World) (acc clo month : Int) (A : Option Addr) (n k : Nat) {w2 : World} (hb : Below ((w.alloc (.cells #[.int .i64 acc, .slice A n k, .int .i64 clo] 24)).alloc (.cells #[.int .i64 month] 3)).heap.size ((w.alloc (.cells #[.int .i64 acc, .slice A n k, .int .i64 clo] 24)).alloc (.cells #[.int .i64 month] 3)) w2) :
    w2.cell? ⟨w.heap.size, 0, none⟩ = some (.int .i64 acc) := keepB hb (c_old (c_new _ _ _ _ _ _ rfl rfl))
set_option maxRecDepth 100000 in
set_option maxHeartbeats 4000000 in
theorem Statement_no1 (acc clo : Int) (A : Option Addr) (c : Nat) (ps : List S27) (month : Int) (w : World) (hr : Kd.C k27 w A ps.length ps) (hn : ps.length ≤ 1000000) (ho : okAll acc [] ps = false) :
    Calls Try.prog 19 #[.agg #[.int .i64 acc, .slice A ps.length c, .int .i64 clo], .int .i64 month] w fun e w' => e = .returned (.tuple #[.slice none 0 0, .int .i64 240]) ∧ Below w.heap.size w w' := by
  have HR := Lib.hid hr
  have HO := Lib.hid ho
  clear hr ho
  refine calls_of_wp_marks Try.func19 rfl ?_
  simp only [Try.ntmps19, List.size_toArray, List.length_cons, List.length_nil, Nat.reduceAdd, Nat.reduceSub, Array.replicate_succ, Array.replicate_zero, List.push_toArray, List.append_toArray, List.nil_append, List.cons_append]
  go_wp2_with (first | (go_at_call 28; refine (open_no acc clo A c ps _ (Kd.C_alloc (Kd.C_alloc HR.out _) _) hn HO.out).mono ?_; rintro e w2 ⟨rfl, hb2⟩) | fail)
  refine ⟨_, results_tmp2 rfl _ _ _, rfl, Below.trans (below2 w _ _) (hb2.mono (below2 w _ _).size)⟩
set_option maxRecDepth 100000 in
set_option maxHeartbeats 4000000 in
theorem Statement_no2 (acc clo : Int) (A : Option Addr) (c : Nat) (ps : List S27) (month : Int) (w : World) (hr : Kd.C k27 w A ps.length ps) (hn : ps.length ≤ 1000000) (ho : okAll acc [] ps = true) (hi : inB acc clo = false) :
    Calls Try.prog 19 #[.agg #[.int .i64 acc, .slice A ps.length c, .int .i64 clo], .int .i64 month] w fun e w' => e = .returned (.tuple #[.slice none 0 0, .int .i64 240]) ∧ Below w.heap.size w w' := by
  have HPS := Lib.hid (okAll_200 ho)
  have HB1 := Lib.hid (okAll_formed ps [] ho)
  have HR := Lib.hid hr
  have HO := Lib.hid ho
  have HI := Lib.hid hi
  clear hr ho hi
  refine calls_of_wp_marks Try.func19 rfl ?_
  simp only [Try.ntmps19, List.size_toArray, List.length_cons, List.length_nil, Nat.reduceAdd, Nat.reduceSub, Array.replicate_succ, Array.replicate_zero, List.push_toArray, List.append_toArray, List.nil_append, List.cons_append]
  go_wp2_with (first | (go_at_call 28; refine (open_yes acc clo A c ps _ (Kd.C_alloc (Kd.C_alloc HR.out _) _) hn HO.out false HI.out).mono ?_; rintro e w2 ⟨B, rfl, hL2⟩) | fail)
  refine ⟨_, results_tmp2 rfl _ _ _, rfl, Below.trans (below2 w _ _) (hL2.1.mono (below2 w _ _).size)⟩
set_option maxRecDepth 100000 in
set_option maxHeartbeats 4000000 in
theorem Statement_no3 (acc clo : Int) (A : Option Addr) (c : Nat) (ps : List S27) (month : Int) (w : World) (hr : Kd.C k27 w A ps.length ps) (hn : ps.length ≤ 1000000) (ho : okAll acc [] ps = true) (hi : inB acc clo = true) (hm : decide (0 ≤ month ∧ month ≤ 11) = false) :
    Calls Try.prog 19 #[.agg #[.int .i64 acc, .slice A ps.length c, .int .i64 clo], .int .i64 month] w fun e w' => e = .returned (.tuple #[.slice none 0 0, .int .i64 240]) ∧ Below w.heap.size w w' := by
  have HPS := Lib.hid (okAll_200 ho)
  have HB1 := Lib.hid (okAll_formed ps [] ho)
  have HR := Lib.hid hr
  have HO := Lib.hid ho
  have HI := Lib.hid hi
  have HM := Lib.hid hm
  clear hm
  clear hr ho hi
  refine calls_of_wp_marks Try.func19 rfl ?_
  simp only [Try.ntmps19, List.size_toArray, List.length_cons, List.length_nil, Nat.reduceAdd, Nat.reduceSub, Array.replicate_succ, Array.replicate_zero, List.push_toArray, List.append_toArray, List.nil_append, List.cons_append]
  go_wp2_with (first | (go_at_call 28; refine (open_yes acc clo A c ps _ (Kd.C_alloc (Kd.C_alloc HR.out _) _) hn HO.out true HI.out).mono ?_; rintro e w2 ⟨B, rfl, hL2⟩; have hm2 := month_cell w _ _ _ _ _ _ hL2.1) | (go_at_call 32; (with_reducible refine (isIn_walk' month 0 11 false HM.out _).mono ?_); rintro e w4 ⟨rfl, hd4⟩) | fail)
  refine ⟨_, results_tmp2 rfl _ _ _, rfl, Below.trans (Below.trans (below2 w _ _) (hL2.1.mono (below2 w _ _).size)) (hd4.below.mono (Nat.le_trans (below2 w _ _).size hL2.1.size))⟩
set_option maxRecDepth 100000 in
set_option maxHeartbeats 4000000 in
theorem Statement_yes (acc clo : Int) (A : Option Addr) (c : Nat) (ps : List S27) (month : Int) (w : World) (hr : Kd.C k27 w A ps.length ps) (hn : ps.length ≤ 1000000) (ho : okAll acc [] ps = true) (hi : inB acc clo = true) (hm : decide (0 ≤ month ∧ month ≤ 11) = true) :
    Calls Try.prog 19 #[.agg #[.int .i64 acc, .slice A ps.length c, .int .i64 clo], .int .i64 month] w fun e w' => ∃ v : Value, e = .returned (.tuple #[v, .int .i64 0]) ∧ Kd.R (Kd.int .i64) 3 w' w.heap.size (fun _ => True) v ((stL month ps).take acc.toNat) ∧ Below w.heap.size w w' := by
  have HPS := Lib.hid (okAll_200 ho)
  have HB1 := Lib.hid (okAll_formed ps [] ho)
  have HR := Lib.hid hr
  have HO := Lib.hid ho
  have HI := Lib.hid hi
  have HM := Lib.hid hm
  clear hm
  clear hr ho hi
  refine calls_of_wp_marks Try.func19 rfl ?_
  simp only [Try.ntmps19, List.size_toArray, List.length_cons, List.length_nil, Nat.reduceAdd, Nat.reduceSub, Array.replicate_succ, Array.replicate_zero, List.push_toArray, List.append_toArray, List.nil_append, List.cons_append]
  obtain ⟨Z, hZ⟩ : ∃ Z, List.replicate 16 (0 : Int) = Z := ⟨_, rfl⟩
  have hz := zero_bal
  rw [hZ] at hz
  have hZ0 : sumB [] = Z := hZ
  have HZ := Lib.hid hZ0
  clear hZ hZ0
  go_wp2_with (first | (go_at_call 28; refine (open_yes acc clo A c ps _ (Kd.C_alloc (Kd.C_alloc HR.out _) _) hn HO.out true HI.out).mono ?_; rintro e w2 ⟨B, rfl, hL2⟩; have hm2 := month_cell w _ _ _ _ _ _ hL2.1) | (go_at_call 32; (with_reducible refine (isIn_walk' month 0 11 true HM.out _).mono ?_); rintro e w4 ⟨rfl, hd4⟩) | fail)
  have HL4 := Lib.hid (hL2.below hd4.below)
  have hb4 : Below w.heap.size w w4 := Below.trans (below2 w _ _) (HL4.out.1.mono (below2 w _ _).size)
  have hm4 := keepB hd4.below hm2
  have ha4 := acc_cell w _ _ _ _ _ _ HL4.out.1
  have hsz4 : w.heap.size + 1 < w4.heap.size := World.block_lt_of_cell? w4 _ hm4
  obtain ⟨a', k', nn, hnn, hLed, hR', hne⟩ := led_own HL4.out
  have hps0 : ps = [] → a' = none := fun h0 => by
    obtain ⟨_, _, v, l1, _, _, l4⟩ := HL4.out
    have e1 := l1.cell (j := 1) rfl
    have e2 := hLed.cell (j := 1) rfl
    rw [e1] at e2
    injection e2 with e2
    rw [l4 h0] at e2
    injection e2 with e2 _ _
    exact e2.symm
  obtain ⟨hnp, hnk, hC'⟩ := Kd.R_reads' hR'
  have hB4 := hLed.lt
  refine (those_walk B 34 _ _).mono ?_
  rintro e w5 ⟨rfl, rfl⟩
  obtain ⟨O, hO⟩ : ∃ O, w4.heap.size = O := ⟨_, rfl⟩
  have hO1 : (w4.alloc (.cells (ints Z).toArray 63)).heap.size = O + 1 := by simp [hO]
  have hbW : Below w4.heap.size w4 (((w4.alloc (.cells (ints Z).toArray 63)).alloc (.cells #[.pointer (some ⟨B, 0, none⟩)] 52)).alloc (.cells #[.func (.func 34) #[] #[.pointer (some ⟨w.heap.size + 1, 0, none⟩)]] 66)) := below3 w4 _ _ _
  have hBO : Blk (((w4.alloc (.cells (ints Z).toArray 63)).alloc (.cells #[.pointer (some ⟨B, 0, none⟩)] 52)).alloc (.cells #[.func (.func 34) #[] #[.pointer (some ⟨w.heap.size + 1, 0, none⟩)]] 66)) O 63 (ints (sumB [])) := by
    rw [HZ.out, ← hO]
    exact ((Blk.new w4 63 (ints Z)).alloc _).alloc _
  have cL : (((w4.alloc (.cells (ints Z).toArray 63)).alloc (.cells #[.pointer (some ⟨B, 0, none⟩)] 52)).alloc (.cells #[.func (.func 34) #[] #[.pointer (some ⟨w.heap.size + 1, 0, none⟩)]] 66)).cell? ⟨O + 1, 0, none⟩ = some (.pointer (some ⟨B, 0, none⟩)) := c_old (c_new _ _ _ _ _ _ rfl (by simp [hO]))
  have cL1 : (((w4.alloc (.cells (ints Z).toArray 63)).alloc (.cells #[.pointer (some ⟨B, 0, none⟩)] 52)).alloc (.cells #[.func (.func 34) #[] #[.pointer (some ⟨w.heap.size + 1, 0, none⟩)]] 66)).cell? ⟨O + 1 + 1, 0, none⟩ = some (.func (.func 34) #[] #[.pointer (some ⟨w.heap.size + 1, 0, none⟩)]) := c_new _ _ _ _ _ _ rfl (by simp [hO])
  have cM : (((w4.alloc (.cells (ints Z).toArray 63)).alloc (.cells #[.pointer (some ⟨B, 0, none⟩)] 52)).alloc (.cells #[.func (.func 34) #[] #[.pointer (some ⟨w.heap.size + 1, 0, none⟩)]] 66)).cell? ⟨w.heap.size + 1, 0, none⟩ = some (.int .i64 month) := keepB hbW hm4
  have cA : (((w4.alloc (.cells (ints Z).toArray 63)).alloc (.cells #[.pointer (some ⟨B, 0, none⟩)] 52)).alloc (.cells #[.func (.func 34) #[] #[.pointer (some ⟨w.heap.size + 1, 0, none⟩)]] 66)).cell? ⟨w.heap.size, 0, none⟩ = some (.int .i64 acc) := keepB hbW ha4
  have cB : (((w4.alloc (.cells (ints Z).toArray 63)).alloc (.cells #[.pointer (some ⟨B, 0, none⟩)] 52)).alloc (.cells #[.func (.func 34) #[] #[.pointer (some ⟨w.heap.size + 1, 0, none⟩)]] 66)).cell? ⟨B, 1, none⟩ = some (.slice a' nn k') := keepB hbW (hLed.cell rfl)
  have hC0 : Kd.C k27 (((w4.alloc (.cells (ints Z).toArray 63)).alloc (.cells #[.pointer (some ⟨B, 0, none⟩)] 52)).alloc (.cells #[.func (.func 34) #[] #[.pointer (some ⟨w.heap.size + 1, 0, none⟩)]] 66)) a' nn ps := by
    have := Kd.C_below hC' hbW
    rwa [hnn] at this
  have hAw : ∀ ad, a' = some ad → ad.block < w4.heap.size := fun ad e => by
    subst e
    have hp : 0 < ps.length := by
      rcases Nat.eq_zero_or_pos ps.length with h0 | h0
      · have := hps0 (List.eq_nil_of_length_eq_zero h0); cases this
      · exact h0
    obtain ⟨ad', e1, y0, _⟩ := at_T27 hC' 0 (by omega) (by omega)
    injection e1 with e1
    subst e1
    have := World.block_lt_of_cell? w4 _ y0
    simpa [Addr.add] using this
  rw [hO1]
  try rw [hO]
  generalize (((w4.alloc (.cells (ints Z).toArray 63)).alloc (.cells #[.pointer (some ⟨B, 0, none⟩)] 52)).alloc (.cells #[.func (.func 34) #[] #[.pointer (some ⟨w.heap.size + 1, 0, none⟩)]] 66)) = W0 at *
  have HH := Lib.hid (And.intro hb4 (And.intro hnn (And.intro hLed (And.intro hnp hC'))))
  have HX := Lib.hid (And.intro hAw (And.intro hbW (And.intro hC0 hO)))
  have HCC := Lib.hid (And.intro cL (And.intro cL1 (And.intro cM (And.intro cA cB))))
  clear hb4 hnn hLed hnp hC' hAw hbW hC0 hO hO1 cL cL1 cM cA cB hps0 hR' hne hm2 hm4 ha4 hz hL2
  go_wp2
  have hO := HX.out.2.2.2
  have hW0 := HX.out.2.1.size
  have hgiv := those1_gives B (O + 1) 34 #[.pointer (some ⟨w.heap.size + 1, 0, none⟩)] a' nn k' ps HH.out.2.1 (by have := HH.out.2.1; omega) (stF month) (fun k => k < W0.heap.size ∧ k ≠ O) W0 (fun k hk => hk.1)
    HCC.out.1 HCC.out.2.1 HCC.out.2.2.2.2 HX.out.2.2.1 ⟨World.block_lt_of_cell? W0 _ HCC.out.1, by show O + 1 ≠ O; omega⟩ ⟨World.block_lt_of_cell? W0 _ HCC.out.2.1, by show O + 1 + 1 ≠ O; omega⟩ ⟨World.block_lt_of_cell? W0 _ HCC.out.2.2.2.2, by show B ≠ O; omega⟩ (fun ad e => by have := HX.out.1 ad e; exact ⟨by show ad.block < W0.heap.size; omega, by show ad.block ≠ O; omega⟩)
    (enters_of Try.func34 (by kernel_rfl) rfl)
    (fun i p W hi hW => st1_walk (w.heap.size + 1) month (i : Int) p (book1_of (acc_of HI.out) (HB1.out p (List.mem_of_getElem? hi))).2.2.2.2 W (cell_of_kept (hW _ ⟨World.block_lt_of_cell? W0 _ HCC.out.2.2.1, by simp only; omega⟩) HCC.out.2.2.1))
  have HO := Lib.hid hO
  have HOW := Lib.hid hBO.lt
  clear hO
  refine wp_rangeFunc_box (d := 9) (T := 27) (gf := 39) (lb := #[.pointer (some ⟨O + 1, 0, none⟩), .pointer (some ⟨O + 1 + 1, 0, none⟩)]) rfl (enters_of Try.func39 (by kernel_rfl) rfl) (KS := fun k => k < W0.heap.size ∧ k ≠ O) (fun k hk => hk.1) hgiv (Below.refl _ _) (fun _ => rfl)
    (fun p => [.int .i64 p.f0, .int .i64 p.f1, .int .i64 p.f2, .int .i64 p.f3, .int .i64 p.f4, .int .i64 p.f5, .int .i64 p.f6]) ?assign (fun pre V => Blk V O 63 (ints (sumB pre)) ∧ W0.grownBy V (some O)) (OwnFrom.and (own_blk _ hBO.lt) (own_grown _ (Nat.le_refl _))) ⟨hBO, ⟨rfl, rfl, rfl, Nat.le_refl _, fun _ _ _ => rfl⟩⟩ ?body ?done
  case assign =>
    intro l' p V K hK
    have hK' := Lib.hid hK
    clear hK hgiv
    simp only [pvA]
    unfold pv
    gi_wp2
    have h := hK'.out
    simp [boxAct, pvA, pv] at h
    exact h
  case body =>
    intro l' pre p Bp V hI hBlk hBs hpre
    obtain ⟨hbV, hgr⟩ := hI
    have hmem : ∀ q ∈ pre ++ [p], Book1 q := fun q hq => book1_of (acc_of HI.out) (HB1.out q (thoseL_mem _ _ _ q (hpre.subset hq)))
    have hlen : pre.length ≤ 200 := by
      have h1 := hpre.length_le
      have h2 := thoseL_len (stF month) ps 0
      have h3 := HPS.out
      simp at h1
      omega
    have hj := add_step O pre p hmem hlen V hbV
    unfold pv at hj
    have HJ := Lib.hid hj
    clear hj
    have c0 := hBlk.cell (j := 0) rfl
    have c1 := hBlk.cell (j := 1) rfl
    have c2 := hBlk.cell (j := 2) rfl
    have c3 := hBlk.cell (j := 3) rfl
    have c4 := hBlk.cell (j := 4) rfl
    have c5 := hBlk.cell (j := 5) rfl
    have c6 := hBlk.cell (j := 6) rfl
    clear hpre hgiv hmem hlen
    simp only [boxAct, pvA]
    simp
    gi_wp2_with fail
    refine ⟨trivial, ?_⟩
    (with_reducible refine CallsIn.mono (CallsIn.inRound l' ((callsIn_wide (n := 2)).2 HJ.out)) ?_)
    rintro e W3 ⟨rfl, hg3, hb3⟩
    gi_wp2
    refine ⟨keeps_grown hg3 HOW.out, ?_, hb3, grown_trans hgr hg3⟩
    intro k' hk'
    exact hg3.block k' (Nat.lt_of_lt_of_le hk'.1 hgr.size) (fun e => hk'.2 (Option.some.inj e))
  case done =>
    rintro D V hD ⟨hbV, hgr⟩ hK
    obtain ⟨k, hk⟩ := Int.eq_ofNat_of_zero_le (show 0 ≤ acc by have := acc_of HI.out; omega)
    have hk16 : k ≤ 16 := by have := acc_of HI.out; omega
    have hst : stL month ps = sumB (thoseL (stF month) 0 ps) := rfl
    have cAV : V.cell? ⟨w.heap.size, 0, none⟩ = some (.int .i64 (k : Int)) := by
      rw [← hk]
      exact cell_of_kept (hgr.block _ (World.block_lt_of_cell? W0 _ HCC.out.2.2.2.1) (fun e => by injection e with e; simp only at e; have := HO.out; omega)) HCC.out.2.2.2.1
    rw [← hst] at hbV
    have hl16 : (stL month ps).length = 16 := sumB_len _
    have hlz : (ints (stL month ps)).length = 16 := by rw [ints_len, hl16]
    have HLW := Lib.hid (fun W => list_walk (stL month ps) hl16 k hk16 W)
    obtain ⟨bs, hbs⟩ : ∃ bs, stL month ps = bs := ⟨_, rfl⟩
    rw [hbs] at hbV hl16 hlz HLW
    have HBS := Lib.hid hbs
    clear hbs
    have hi63 : (Try.prog.info? 63).map (·.size) = some (ints bs).length := by rw [hlz]; kernel_rfl
    have HI63 := Lib.hid hi63
    have HR63 := Lib.hid hbV.range
    clear hst hl16 hlz hi63 hgiv hBO hbV
    have HK := Lib.hid hk
    clear hk
    go_wp2_with (first | (refine load_all (by rfl) 63 (.tmp 8) (by rfl) O (by rfl) (ints bs) HR63.out _ Try.underlying63 (by rfl) (by exact HI63.out) ?_) | (go_at_call 36; (with_reducible refine (HLW.out _).mono ?_); rintro e w9 ⟨v, rfl, hR9, hb9⟩) | fail)
    have hDV : D < V.heap.size := (Array.getElem?_eq_some_iff.1 hK).1
    have hD9 : w9.heap[D]? = some (.deferred (some [])) := (hb9.block D hDV).trans hK
    refine ⟨by simp, .inl ⟨_, _, rfl, run_takeDeferred hD9, ?_⟩⟩
    refine ⟨_, results_tmp2 rfl _ _ _, v, rfl, ?_, ?_⟩
    · rw [HBS.out, HK.out, Int.toNat_natCast]
      exact Kd.R_lower (R_putObj hR9 hDV _) (by have := hgr.size; have := HH.out.1.size; omega)
    · have hgs := hgr.size
      have hws := HH.out.1.size
      have b1 : Below w.heap.size w W0 := HH.out.1.trans (HX.out.2.1.mono hws)
      have b2 : Below w.heap.size w V := grown_below hgr b1 (by have := HO.out; omega) (by omega)
      have b3 : Below w.heap.size w w9 := b2.trans (hb9.mono (by omega))
      exact b3.trans (belowK_b (w := w) (Nat.le_refl _) w9 D _ _ (by omega) hD9 rfl rfl)
end Go.Proofs.Ytooogaogbffjfaa.Ext
end
section
/-
  Owed: the walk.
-/
set_option linter.unusedVariables false
set_option linter.unusedSimpArgs false
namespace Go.Proofs.Ytooogaogbffjfaa.Ext
open Go.RowKit Go.Shelf Go.Proofs.YtooogaogbffjfaaW.PrintWords Go.Proofs.YtooogaogbffjfaaW.PrintLast Go.Proofs.YtooogaogbffjfaaW.PrintMore Go.Proofs.Ytooogaogbffjfaa.PK Go.Proofs.Ytooogaogbffjfaa.Bk
attribute [local go_sem] Oper.semAt_some
set_option maxRecDepth 100000 in
set_option maxHeartbeats 4000000 in
theorem Owed_no1 (acc clo : Int) (A : Option Addr) (c : Nat) (ps : List S27) (subject : Int) (w : World) (hr : Kd.C k27 w A ps.length ps) (hn : ps.length ≤ 1000000) (ho : okAll acc [] ps = false) :
    Calls Try.prog 24 #[.agg #[.int .i64 acc, .slice A ps.length c, .int .i64 clo], .int .i64 subject] w fun e w' => e = .returned (.tuple #[.slice none 0 0, .int .i64 240]) ∧ Below w.heap.size w w' := by
  have HR := Lib.hid hr
  have HO := Lib.hid ho
  clear hr ho
  refine calls_of_wp_marks Try.func24 rfl ?_
  simp only [Try.ntmps24, List.size_toArray, List.length_cons, List.length_nil, Nat.reduceAdd, Nat.reduceSub, Array.replicate_succ, Array.replicate_zero, List.push_toArray, List.append_toArray, List.nil_append, List.cons_append]
  go_wp2_with (first | (go_at_call 28; refine (open_no acc clo A c ps _ (Kd.C_alloc (Kd.C_alloc HR.out _) _) hn HO.out).mono ?_; rintro e w2 ⟨rfl, hb2⟩) | fail)
  refine ⟨_, results_tmp2 rfl _ _ _, rfl, (Below.trans (below2 w _ _) (hb2.mono (below2 w _ _).size)).alloc (Nat.le_trans (below2 w _ _).size hb2.size) _⟩
set_option maxRecDepth 100000 in
set_option maxHeartbeats 4000000 in
theorem Owed_no2 (acc clo : Int) (A : Option Addr) (c : Nat) (ps : List S27) (subject : Int) (w : World) (hr : Kd.C k27 w A ps.length ps) (hn : ps.length ≤ 1000000) (ho : okAll acc [] ps = true) (hi : inB acc clo = false) :
    Calls Try.prog 24 #[.agg #[.int .i64 acc, .slice A ps.length c, .int .i64 clo], .int .i64 subject] w fun e w' => e = .returned (.tuple #[.slice none 0 0, .int .i64 240]) ∧ Below w.heap.size w w' := by
  have HPS := Lib.hid (okAll_200 ho)
  have HB1 := Lib.hid (okAll_formed ps [] ho)
  have HR := Lib.hid hr
  have HO := Lib.hid ho
  have HI := Lib.hid hi
  clear hr ho hi
  refine calls_of_wp_marks Try.func24 rfl ?_
  simp only [Try.ntmps24, List.size_toArray, List.length_cons, List.length_nil, Nat.reduceAdd, Nat.reduceSub, Array.replicate_succ, Array.replicate_zero, List.push_toArray, List.append_toArray, List.nil_append, List.cons_append]
  go_wp2_with (first | (go_at_call 28; refine (open_yes acc clo A c ps _ (Kd.C_alloc (Kd.C_alloc HR.out _) _) hn HO.out false HI.out).mono ?_; rintro e w2 ⟨B, rfl, hL2⟩) | fail)
  refine ⟨_, results_tmp2 rfl _ _ _, rfl, (Below.trans (below2 w _ _) (hL2.1.mono (below2 w _ _).size)).alloc (Nat.le_trans (below2 w _ _).size hL2.1.size) _⟩
set_option maxRecDepth 100000 in
set_option maxHeartbeats 4000000 in
theorem Owed_no3 (acc clo : Int) (A : Option Addr) (c : Nat) (ps : List S27) (subject : Int) (w : World) (hr : Kd.C k27 w A ps.length ps) (hn : ps.length ≤ 1000000) (ho : okAll acc [] ps = true) (hi : inB acc clo = true) (hm : decide (0 ≤ subject ∧ subject ≤ 999) = false) :
    Calls Try.prog 24 #[.agg #[.int .i64 acc, .slice A ps.length c, .int .i64 clo], .int .i64 subject] w fun e w' => e = .returned (.tuple #[.slice none 0 0, .int .i64 240]) ∧ Below w.heap.size w w' := by
  have HPS := Lib.hid (okAll_200 ho)
  have HB1 := Lib.hid (okAll_formed ps [] ho)
  have HR := Lib.hid hr
  have HO := Lib.hid ho
  have HI := Lib.hid hi
  have HM := Lib.hid hm
  clear hm
  clear hr ho hi
  refine calls_of_wp_marks Try.func24 rfl ?_
  simp only [Try.ntmps24, List.size_toArray, List.length_cons, List.length_nil, Nat.reduceAdd, Nat.reduceSub, Array.replicate_succ, Array.replicate_zero, List.push_toArray, List.append_toArray, List.nil_append, List.cons_append]
  go_wp2_with (first | (go_at_call 28; refine (open_yes acc clo A c ps _ (Kd.C_alloc (Kd.C_alloc HR.out _) _) hn HO.out true HI.out).mono ?_; rintro e w2 ⟨B, rfl, hL2⟩; have hm2 := c_old (o := .cells #[.pointer (some ⟨B, 0, none⟩)] 52) (month_cell w _ _ _ _ _ _ hL2.1)) | (go_at_call 32; (with_reducible refine (isIn_walk' subject 0 999 false HM.out _).mono ?_); rintro e w4 ⟨rfl, hd4⟩) | fail)
  refine ⟨_, results_tmp2 rfl _ _ _, rfl, Below.trans ((Below.trans (below2 w _ _) (hL2.1.mono (below2 w _ _).size)).alloc (Nat.le_trans (below2 w _ _).size hL2.1.size) _) (hd4.below.mono (Nat.le_trans (Nat.le_trans (below2 w _ _).size hL2.1.size) (by simp)))⟩
set_option maxRecDepth 100000 in
set_option maxHeartbeats 4000000 in
theorem Owed_yes (acc clo : Int) (A : Option Addr) (c : Nat) (ps : List S27) (subject : Int) (w : World) (hr : Kd.C k27 w A ps.length ps) (hn : ps.length ≤ 1000000) (ho : okAll acc [] ps = true) (hi : inB acc clo = true) (hm : decide (0 ≤ subject ∧ subject ≤ 999) = true) :
    Calls Try.prog 24 #[.agg #[.int .i64 acc, .slice A ps.length c, .int .i64 clo], .int .i64 subject] w fun e w' => ∃ v : Value, e = .returned (.tuple #[v, .int .i64 0]) ∧ Kd.R (Kd.int .i64) 3 w' w.heap.size (fun _ => True) v ((owL subject ps).take acc.toNat) ∧ Below w.heap.size w w' := by
  have HPS := Lib.hid (okAll_200 ho)
  have HB1 := Lib.hid (okAll_formed ps [] ho)
  have HR := Lib.hid hr
  have HO := Lib.hid ho
  have HI := Lib.hid hi
  have HM := Lib.hid hm
  clear hm
  clear hr ho hi
  refine calls_of_wp_marks Try.func24 rfl ?_
  simp only [Try.ntmps24, List.size_toArray, List.length_cons, List.length_nil, Nat.reduceAdd, Nat.reduceSub, Array.replicate_succ, Array.replicate_zero, List.push_toArray, List.append_toArray, List.nil_append, List.cons_append]
  obtain ⟨Z, hZ⟩ : ∃ Z, List.replicate 16 (0 : Int) = Z := ⟨_, rfl⟩
  have hz := zero_bal
  rw [hZ] at hz
  have hZ0 : sumB [] = Z := hZ
  have HZ := Lib.hid hZ0
  clear hZ hZ0
  go_wp2_with (first | (go_at_call 28; refine (open_yes acc clo A c ps _ (Kd.C_alloc (Kd.C_alloc HR.out _) _) hn HO.out true HI.out).mono ?_; rintro e w2 ⟨B, rfl, hL2⟩; have hm2 := c_old (o := .cells #[.pointer (some ⟨B, 0, none⟩)] 52) (month_cell w _ _ _ _ _ _ hL2.1)) | (go_at_call 32; (with_reducible refine (isIn_walk' subject 0 999 true HM.out _).mono ?_); rintro e w4 ⟨rfl, hd4⟩; have hx4 : w4.cell? ⟨w2.heap.size, 0, none⟩ = some (.pointer (some ⟨B, 0, none⟩)) := keepB hd4.below (c_new _ _ _ _ _ _ rfl rfl); have hx5 := c_old (o := .cells (ints Z).toArray 63) hx4) | fail)
  have HL4 := Lib.hid ((hL2.below ((Below.refl _ _).alloc (Nat.le_refl _) _)).below hd4.below)
  have hX4 : w2.heap.size < w4.heap.size := World.block_lt_of_cell? w4 _ hx4
  generalize w2.heap.size = X at *
  clear hx5
  have hb4 : Below w.heap.size w w4 := Below.trans (below2 w _ _) (HL4.out.1.mono (below2 w _ _).size)
  have hm4 := keepB hd4.below hm2
  have ha4 := acc_cell w _ _ _ _ _ _ HL4.out.1
  have hsz4 : w.heap.size + 1 < w4.heap.size := World.block_lt_of_cell? w4 _ hm4
  obtain ⟨a', k', nn, hnn, hLed, hR', hne⟩ := led_own HL4.out
  have hps0 : ps = [] → a' = none := fun h0 => by
    obtain ⟨_, _, v, l1, _, _, l4⟩ := HL4.out
    have e1 := l1.cell (j := 1) rfl
    have e2 := hLed.cell (j := 1) rfl
    rw [e1] at e2
    injection e2 with e2
    rw [l4 h0] at e2
    injection e2 with e2 _ _
    exact e2.symm
  obtain ⟨hnp, hnk, hC'⟩ := Kd.R_reads' hR'
  have hB4 := hLed.lt
  refine (those_walk B 37 _ _).mono ?_
  rintro e w5 ⟨rfl, rfl⟩
  obtain ⟨O, hO⟩ : ∃ O, w4.heap.size = O := ⟨_, rfl⟩
  have hO1 : (w4.alloc (.cells (ints Z).toArray 63)).heap.size = O + 1 := by simp [hO]
  have hbW : Below w4.heap.size w4 (((w4.alloc (.cells (ints Z).toArray 63)).alloc (.cells #[.pointer (some ⟨B, 0, none⟩)] 52)).alloc (.cells #[.func (.func 37) #[] #[.pointer (some ⟨w.heap.size + 1, 0, none⟩), .pointer (some ⟨X, 0, none⟩)]] 66)) := below3 w4 _ _ _
  have hBO : Blk (((w4.alloc (.cells (ints Z).toArray 63)).alloc (.cells #[.pointer (some ⟨B, 0, none⟩)] 52)).alloc (.cells #[.func (.func 37) #[] #[.pointer (some ⟨w.heap.size + 1, 0, none⟩), .pointer (some ⟨X, 0, none⟩)]] 66)) O 63 (ints (sumB [])) := by
    rw [HZ.out, ← hO]
    exact ((Blk.new w4 63 (ints Z)).alloc _).alloc _
  have cL : (((w4.alloc (.cells (ints Z).toArray 63)).alloc (.cells #[.pointer (some ⟨B, 0, none⟩)] 52)).alloc (.cells #[.func (.func 37) #[] #[.pointer (some ⟨w.heap.size + 1, 0, none⟩), .pointer (some ⟨X, 0, none⟩)]] 66)).cell? ⟨O + 1, 0, none⟩ = some (.pointer (some ⟨B, 0, none⟩)) := c_old (c_new _ _ _ _ _ _ rfl (by simp [hO]))
  have cL1 : (((w4.alloc (.cells (ints Z).toArray 63)).alloc (.cells #[.pointer (some ⟨B, 0, none⟩)] 52)).alloc (.cells #[.func (.func 37) #[] #[.pointer (some ⟨w.heap.size + 1, 0, none⟩), .pointer (some ⟨X, 0, none⟩)]] 66)).cell? ⟨O + 1 + 1, 0, none⟩ = some (.func (.func 37) #[] #[.pointer (some ⟨w.heap.size + 1, 0, none⟩), .pointer (some ⟨X, 0, none⟩)]) := c_new _ _ _ _ _ _ rfl (by simp [hO])
  have cM : (((w4.alloc (.cells (ints Z).toArray 63)).alloc (.cells #[.pointer (some ⟨B, 0, none⟩)] 52)).alloc (.cells #[.func (.func 37) #[] #[.pointer (some ⟨w.heap.size + 1, 0, none⟩), .pointer (some ⟨X, 0, none⟩)]] 66)).cell? ⟨w.heap.size + 1, 0, none⟩ = some (.int .i64 subject) := keepB hbW hm4
  have cX : (((w4.alloc (.cells (ints Z).toArray 63)).alloc (.cells #[.pointer (some ⟨B, 0, none⟩)] 52)).alloc (.cells #[.func (.func 37) #[] #[.pointer (some ⟨w.heap.size + 1, 0, none⟩), .pointer (some ⟨X, 0, none⟩)]] 66)).cell? ⟨X, 0, none⟩ = some (.pointer (some ⟨B, 0, none⟩)) := keepB hbW hx4
  have hLW : Led (((w4.alloc (.cells (ints Z).toArray 63)).alloc (.cells #[.pointer (some ⟨B, 0, none⟩)] 52)).alloc (.cells #[.func (.func 37) #[] #[.pointer (some ⟨w.heap.size + 1, 0, none⟩), .pointer (some ⟨X, 0, none⟩)]] 66)) B acc (.slice a' nn k') clo (backs ps) := Blk.belowS hLed hbW
  have cA : (((w4.alloc (.cells (ints Z).toArray 63)).alloc (.cells #[.pointer (some ⟨B, 0, none⟩)] 52)).alloc (.cells #[.func (.func 37) #[] #[.pointer (some ⟨w.heap.size + 1, 0, none⟩), .pointer (some ⟨X, 0, none⟩)]] 66)).cell? ⟨w.heap.size, 0, none⟩ = some (.int .i64 acc) := keepB hbW ha4
  have cB : (((w4.alloc (.cells (ints Z).toArray 63)).alloc (.cells #[.pointer (some ⟨B, 0, none⟩)] 52)).alloc (.cells #[.func (.func 37) #[] #[.pointer (some ⟨w.heap.size + 1, 0, none⟩), .pointer (some ⟨X, 0, none⟩)]] 66)).cell? ⟨B, 1, none⟩ = some (.slice a' nn k') := keepB hbW (hLed.cell rfl)
  have hC0 : Kd.C k27 (((w4.alloc (.cells (ints Z).toArray 63)).alloc (.cells #[.pointer (some ⟨B, 0, none⟩)] 52)).alloc (.cells #[.func (.func 37) #[] #[.pointer (some ⟨w.heap.size + 1, 0, none⟩), .pointer (some ⟨X, 0, none⟩)]] 66)) a' nn ps := by
    have := Kd.C_below hC' hbW
    rwa [hnn] at this
  have hAw : ∀ ad, a' = some ad → ad.block < w4.heap.size := fun ad e => by
    subst e
    have hp : 0 < ps.length := by
      rcases Nat.eq_zero_or_pos ps.length with h0 | h0
      · have := hps0 (List.eq_nil_of_length_eq_zero h0); cases this
      · exact h0
    obtain ⟨ad', e1, y0, _⟩ := at_T27 hC' 0 (by omega) (by omega)
    injection e1 with e1
    subst e1
    have := World.block_lt_of_cell? w4 _ y0
    simpa [Addr.add] using this
  rw [hO1]
  try rw [hO]
  generalize (((w4.alloc (.cells (ints Z).toArray 63)).alloc (.cells #[.pointer (some ⟨B, 0, none⟩)] 52)).alloc (.cells #[.func (.func 37) #[] #[.pointer (some ⟨w.heap.size + 1, 0, none⟩), .pointer (some ⟨X, 0, none⟩)]] 66)) = W0 at *
  have HH := Lib.hid (And.intro hb4 (And.intro hnn (And.intro hLed (And.intro hnp hC'))))
  have HX := Lib.hid (And.intro hAw (And.intro hbW (And.intro hC0 hO)))
  have HCC := Lib.hid (And.intro cL (And.intro cL1 (And.intro cM (And.intro cA (And.intro cB (And.intro cX hLW))))))
  clear hb4 hnn hLed hnp hC' hAw hbW hC0 hO hO1 cL cL1 cM cA cB cX hLW hx4 hps0 hR' hne hm2 hm4 ha4 hz hL2
  go_wp2
  have hO := HX.out.2.2.2
  have hW0 := HX.out.2.1.size
  have hgiv := those1_gives B (O + 1) 37 #[.pointer (some ⟨w.heap.size + 1, 0, none⟩), .pointer (some ⟨X, 0, none⟩)] a' nn k' ps HH.out.2.1 (by have := HH.out.2.1; omega) (owedF subject (backs ps)) (fun k => k < W0.heap.size ∧ k ≠ O) W0 (fun k hk => hk.1)
    HCC.out.1 HCC.out.2.1 HCC.out.2.2.2.2.1 HX.out.2.2.1 ⟨World.block_lt_of_cell? W0 _ HCC.out.1, by show O + 1 ≠ O; omega⟩ ⟨World.block_lt_of_cell? W0 _ HCC.out.2.1, by show O + 1 + 1 ≠ O; omega⟩ ⟨World.block_lt_of_cell? W0 _ HCC.out.2.2.2.2.1, by show B ≠ O; omega⟩ (fun ad e => by have := HX.out.1 ad e; exact ⟨by show ad.block < W0.heap.size; omega, by show ad.block ≠ O; omega⟩)
    (enters_of Try.func37 (by kernel_rfl) rfl)
    (fun i p W hi hW => by
      have hip : i < ps.length := (List.getElem?_eq_some_iff.1 hi).1
      have hi2 : i < 200 := by have := HPS.out; omega
      have hbk := getD_some (l := backs ps) (i := i) (by rw [backs_len]; exact hi2)
      exact ow1_walk (w.heap.size + 1) X B acc clo (.slice a' nn k') (backs ps) subject i hi2 p _ hbk W (cell_of_kept (hW _ ⟨World.block_lt_of_cell? W0 _ HCC.out.2.2.1, by simp only; omega⟩) HCC.out.2.2.1) (cell_of_kept (hW _ ⟨World.block_lt_of_cell? W0 _ HCC.out.2.2.2.2.2.1, by simp only; omega⟩) HCC.out.2.2.2.2.2.1) (HCC.out.2.2.2.2.2.2.move (hW B ⟨World.block_lt_of_cell? W0 _ HCC.out.2.2.2.2.1, by show B ≠ O; omega⟩)))
  have HO := Lib.hid hO
  have HOW := Lib.hid hBO.lt
  clear hO
  refine wp_rangeFunc_box (d := 10) (T := 27) (gf := 39) (lb := #[.pointer (some ⟨O + 1, 0, none⟩), .pointer (some ⟨O + 1 + 1, 0, none⟩)]) rfl (enters_of Try.func39 (by kernel_rfl) rfl) (KS := fun k => k < W0.heap.size ∧ k ≠ O) (fun k hk => hk.1) hgiv (Below.refl _ _) (fun _ => rfl)
    (fun p => [.int .i64 p.f0, .int .i64 p.f1, .int .i64 p.f2, .int .i64 p.f3, .int .i64 p.f4, .int .i64 p.f5, .int .i64 p.f6]) ?assign (fun pre V => Blk V O 63 (ints (sumB pre)) ∧ W0.grownBy V (some O)) (OwnFrom.and (own_blk _ hBO.lt) (own_grown _ (Nat.le_refl _))) ⟨hBO, ⟨rfl, rfl, rfl, Nat.le_refl _, fun _ _ _ => rfl⟩⟩ ?body ?done
  case assign =>
    intro l' p V K hK
    have hK' := Lib.hid hK
    clear hK hgiv
    simp only [pvA]
    unfold pv
    gi_wp2
    have h := hK'.out
    simp [boxAct, pvA, pv] at h
    exact h
  case body =>
    intro l' pre p Bp V hI hBlk hBs hpre
    obtain ⟨hbV, hgr⟩ := hI
    have hmem : ∀ q ∈ pre ++ [p], Book1 q := fun q hq => book1_of (acc_of HI.out) (HB1.out q (thoseL_mem _ _ _ q (hpre.subset hq)))
    have hlen : pre.length ≤ 200 := by
      have h1 := hpre.length_le
      have h2 := thoseL_len (owedF subject (backs ps)) ps 0
      have h3 := HPS.out
      simp at h1
      omega
    have hj := add_step O pre p hmem hlen V hbV
    unfold pv at hj
    have HJ := Lib.hid hj
    clear hj
    have c0 := hBlk.cell (j := 0) rfl
    have c1 := hBlk.cell (j := 1) rfl
    have c2 := hBlk.cell (j := 2) rfl
    have c3 := hBlk.cell (j := 3) rfl
    have c4 := hBlk.cell (j := 4) rfl
    have c5 := hBlk.cell (j := 5) rfl
    have c6 := hBlk.cell (j := 6) rfl
    clear hpre hgiv hmem hlen
    simp only [boxAct, pvA]
    simp
    gi_wp2_with fail
    refine ⟨trivial, ?_⟩
    (with_reducible refine CallsIn.mono (CallsIn.inRound l' ((callsIn_wide (n := 2)).2 HJ.out)) ?_)
    rintro e W3 ⟨rfl, hg3, hb3⟩
    gi_wp2
    refine ⟨keeps_grown hg3 HOW.out, ?_, hb3, grown_trans hgr hg3⟩
    intro k' hk'
    exact hg3.block k' (Nat.lt_of_lt_of_le hk'.1 hgr.size) (fun e => hk'.2 (Option.some.inj e))
  case done =>
    rintro D V hD ⟨hbV, hgr⟩ hK
    obtain ⟨k, hk⟩ := Int.eq_ofNat_of_zero_le (show 0 ≤ acc by have := acc_of HI.out; omega)
    have hk16 : k ≤ 16 := by have := acc_of HI.out; omega
    have hst : owL subject ps = sumB (thoseL (owedF subject (backs ps)) 0 ps) := rfl
    have cAV : V.cell? ⟨w.heap.size, 0, none⟩ = some (.int .i64 (k : Int)) := by
      rw [← hk]
      exact cell_of_kept (hgr.block _ (World.block_lt_of_cell? W0 _ HCC.out.2.2.2.1) (fun e => by injection e with e; simp only at e; have := HO.out; omega)) HCC.out.2.2.2.1
    rw [← hst] at hbV
    have hl16 : (owL subject ps).length = 16 := sumB_len _
    have hlz : (ints (owL subject ps)).length = 16 := by rw [ints_len, hl16]
    have HLW := Lib.hid (fun W => list_walk (owL subject ps) hl16 k hk16 W)
    obtain ⟨bs, hbs⟩ : ∃ bs, owL subject ps = bs := ⟨_, rfl⟩
    rw [hbs] at hbV hl16 hlz HLW
    have HBS := Lib.hid hbs
    clear hbs
    have hi63 : (Try.prog.info? 63).map (·.size) = some (ints bs).length := by rw [hlz]; kernel_rfl
    have HI63 := Lib.hid hi63
    have HR63 := Lib.hid hbV.range
    clear hst hl16 hlz hi63 hgiv hBO hbV
    have HK := Lib.hid hk
    clear hk
    go_wp2_with (first | (refine load_all (by rfl) 63 (.tmp 8) (by rfl) O (by rfl) (ints bs) HR63.out _ Try.underlying63 (by rfl) (by exact HI63.out) ?_) | (go_at_call 36; (with_reducible refine (HLW.out _).mono ?_); rintro e w9 ⟨v, rfl, hR9, hb9⟩) | fail)
    have hDV : D < V.heap.size := (Array.getElem?_eq_some_iff.1 hK).1
    have hD9 : w9.heap[D]? = some (.deferred (some [])) := (hb9.block D hDV).trans hK
    refine ⟨by simp, .inl ⟨_, _, rfl, run_takeDeferred hD9, ?_⟩⟩
    refine ⟨_, results_tmp2 rfl _ _ _, v, rfl, ?_, ?_⟩
    · rw [HBS.out, HK.out, Int.toNat_natCast]
      exact Kd.R_lower (R_putObj hR9 hDV _) (by have := hgr.size; have := HH.out.1.size; omega)
    · have hgs := hgr.size
      have hws := HH.out.1.size
      have b1 : Below w.heap.size w W0 := HH.out.1.trans (HX.out.2.1.mono hws)
      have b2 : Below w.heap.size w V := grown_below hgr b1 (by have := HO.out; omega) (by omega)
      have b3 : Below w.heap.size w w9 := b2.trans (hb9.mono (by omega))
      exact b3.trans (belowK_b (w := w) (Nat.le_refl _) w9 D _ _ (by omega) hD9 rfl rfl)
end Go.Proofs.Ytooogaogbffjfaa.Ext
end
