import Derived.Test.YtooogaogbffjfaaMBookDisputesau
import Derived.Test.YtooogaogbffjfaaMBookDisputesat
import Derived.Test.YtooogaogbffjfaaRows
import Derived.Test.YtooogaogbffjfaaMBookDisputesad
import Derived.WalkKit
import Derived.ProofKit
import Derived.OpenShut
import Derived.ShutString
import Derived.ChangeOld
import Derived.Below
import Derived.SizedLaws
import Derived.LaidMore
import Derived.Stop.Joined
import Derived.SevenTiedAt
import Derived.SliceStrings
import Derived.Lib.LaidTab
/-
  The law's contract, its pure statement, its row and its card. Conditions: the row's own.
-/
section
/-
  The law BookDisputes, walked by hand.
-/
set_option linter.unusedVariables false
set_option linter.unusedSimpArgs false
namespace Go.Proofs.Ytooogaogbffjfaa.Ext
open Go.RowKit Go.Shelf Go.Proofs.YtooogaogbffjfaaW.PrintWords Go.Proofs.YtooogaogbffjfaaW.PrintLast Go.Proofs.YtooogaogbffjfaaW.PrintMore Go.Proofs.Ytooogaogbffjfaa.PK Go.Proofs.Ytooogaogbffjfaa.Bk Go.Proofs.Ytooogaogbffjfaa.PB Go.Proofs.Ytooogaogbffjfaa.Pure
attribute [local go_sem] Oper.semAt_some max2_int min2_int max_two min_two
theorem made_walk' (a0 : Int) (A1 : Option Addr) (n1 c1 : Nat) (l1 : List S48) (hl1 : l1.length = n1) (n : Nat) (ps : List S27) (clo : Int) (hm : aircheckref24_Made.f a0 l1 = some ((n : Int), ps, clo)) (w : World) (hr1 : Kd.C k48 w A1 n1 l1) (hc1 : n1 ≤ c1) :
    Calls Try.prog 8 #[.int .i64 a0, .slice A1 n1 c1] w fun e w' => ∃ (A : Option Addr) (c nn : Nat), ps.length = nn ∧ e = .returned (.agg #[.int .i64 (n : Int), .slice A nn c, .int .i64 clo]) ∧ Kd.R k27 27 w' w.heap.size (fun _ => True) (.slice A nn c) ps ∧ Below w.heap.size w w' := by
  subst hl1
  refine (aircheckref24_Made.calls a0 A1 c1 l1 n ps clo w hr1 hc1 hm).mono ?_
  rintro e w' ⟨v, he, hR, hb⟩
  obtain ⟨A', c', rfl⟩ := Kd.R_slice hR
  exact ⟨A', c', _, rfl, he, hR, hb⟩
theorem lpick_same (c n : Int) (hc : I64 c) (hn : 0 < n) (r : Int) (hr : pk c n = r) (w : World) : Calls Try.prog 14 #[.int .i64 c, .int .i64 n] w fun e w' => e = .returned (.int .i64 r) ∧ w' = w := by
  have hn0 : ¬ n = 0 := by omega
  unfold I64 at hc
  subst hr
  unfold pk
  by_cases h : c < 0
  · have e1 : wrap64 (-(c + 1)) = -(c + 1) := by unfold wrap64; omega
    have e2 : Int.tmod (-(c + 1)) n = (-(c + 1)) % n := Int.tmod_eq_emod_of_nonneg (by omega)
    rw [if_pos h, ← e2]
    clear e2
    go_enter Try.func14, Try.ntmps14
    go_wp2
    go_ret
    exact ⟨by first | rfl | (simp; done) | (simp [*]; done), rfl⟩
  · have h0 : 0 ≤ c := by omega
    have hn1 : 0 ≤ n := by omega
    rw [if_neg h]
    go_enter Try.func14, Try.ntmps14
    go_wp2
    go_ret
    exact ⟨by first | rfl | (simp; done) | (simp [*]; done), rfl⟩
theorem _root_.Go.Proofs.Ytooogaogbffjfaa.Pure.BookOk.owF {n : Nat} {ps : List S27} {clo : Int} (h : BookOk n ps clo) (s : Int) (hs : 0 ≤ s ∧ s ≤ 999) : owesF (n : Int) ps clo s = (L n (fun t => tot (thoseL (owedF s (backs ps)) 0 ps) (t : Int)), 0) := by
  have h1 := h.ow s hs
  have hl := h.len
  unfold book_Owed.f at h1
  rw [if_pos (by omega)] at h1
  exact Option.some.inj h1
theorem _root_.Go.Proofs.Ytooogaogbffjfaa.Pure.BookOk.stF' {n : Nat} {ps : List S27} {clo : Int} (h : BookOk n ps clo) (m : Int) (hm : 0 ≤ m ∧ m ≤ 11) : stmtF (n : Int) ps clo m = (L n (fun t => tot (thoseL (stF m) 0 ps) (t : Int)), 0) := by
  have h1 := h.st m hm
  have hl := h.len
  unfold book_Statement.f at h1
  rw [if_pos (by omega)] at h1
  exact Option.some.inj h1
theorem dayOf_rd (ps : List S27) (m : Nat) (h : ps.length = m + 1) : dayOf ps = (rd_T27 ps (m : Int)).f1 := by
  unfold dayOf
  rw [List.getLast?_eq_getElem?, h, Nat.add_sub_cancel, rd_some ps m (by omega)]
theorem upd_L {n : Nat} (p : S27) (a b : Nat) (h3 : p.f3 = (a : Int)) (h2 : p.f2 = (b : Int)) (hne : b ≠ a) (f : Nat → Int) (amt : Int) : ((L n f).set a (f a - p.f4 + amt)).set b (f b + p.f4 - amt) = L n fun t => f t + dAdd p amt (t : Int) := by
  rw [L_set, L_set]
  refine L_congr n _ _ fun t ht => ?_
  unfold dAdd
  rw [h3, h2]
  by_cases e1 : t = b
  · subst e1
    rw [if_pos rfl, if_neg (by omega), if_pos rfl]
    omega
  · by_cases e2 : t = a
    · subst e2
      rw [if_neg e1, if_pos rfl, if_pos rfl, if_neg (by omega)]
      omega
    · rw [if_neg e1, if_neg e2, if_neg (by omega), if_neg (by omega)]
      omega
theorem bInts_walk (n : Nat) (hn : n ≤ 1000) (A B : Option Addr) (c d : Nat) (xs : List Int) (hl : xs.length = n) (w : World) (hA : Kd.C (Kd.int .i64) w A n xs) (hc : n ≤ c) (hB : Kd.C (Kd.int .i64) w B n xs) (hd : n ≤ d) :
    Calls Try.prog 23 #[.slice A n c, .slice B n d] w fun e w' => e = .returned (.bool true) ∧ Below w.heap.size w w' := by
  subst hl
  exact (aircheckref24_Ints.calls 2000 A c xs B d xs true w hA hc hB hd (ints_same 2000 xs (by omega) (by omega))).mono fun e w' ⟨he, hd⟩ => ⟨he, hd.below⟩
set_option maxRecDepth 100000 in
set_option maxHeartbeats 4000000 in
theorem dispLaw_walk (a0 : Int) (A1 : Option Addr) (n1 c1 : Nat) (l1 : List S48) (hl1 : l1.length = n1) (a2 a3 a4 : Int) (h2 : I64 a2) (h3 : I64 a3) (h4 : I64 a4) (n : Nat) (ps : List S27) (clo : Int) (hm : aircheckref24_Made.f a0 l1 = some ((n : Int), ps, clo)) (hok : BookOk n ps clo) (hlen : ps.length ≤ 48) (w : World) (hr1 : Kd.C k48 w A1 n1 l1) (hc1 : n1 ≤ c1) :
    Calls Try.prog 6 #[.int .i64 a0, .slice A1 n1 c1, .int .i64 a2, .int .i64 a3, .int .i64 a4] w fun e w' => e = .returned (.bool true) ∧ Below w.heap.size w w' := by
  have HM := Lib.hid hm
  have HR := Lib.hid hr1
  have HOK := Lib.hid hok
  have HLE := Lib.hid hlen
  have H2 := Lib.hid h2
  have H3 := Lib.hid h3
  have H4 := Lib.hid h4
  have HL1 := Lib.hid hl1
  clear hm hr1 hok hlen h2 h3 h4 hl1
  go_enter Try.func6, Try.ntmps6
  go_upto_region 3 with (first | (go_at_call 7; (with_reducible refine (airchecklaw24_sane.calls true _ rfl).mono ?_); rintro e w2 ⟨rfl, hb2⟩) | (go_at_call 8; (refine (made_walk' a0 A1 n1 c1 l1 HL1.out n ps clo HM.out _ (Kd.C_below HR.out hb2) hc1).mono ?_); rintro e w3 ⟨A, c, nn, hnn, rfl, hR3, hb3⟩) | fail)
  have hBK : Blk (w3.alloc (.cells #[.int .i64 (n : Int), .slice A nn c, .int .i64 clo] 24)) w3.heap.size 24 [.int .i64 (n : Int), .slice A nn c, .int .i64 clo] := Blk.newA w3 _ _ _ rfl
  have hB4 : Below w.heap.size w (w3.alloc (.cells #[.int .i64 (n : Int), .slice A nn c, .int .i64 clo] 24)) := (Below.trans hb2 (hb3.mono hb2.size)).alloc (Nat.le_trans hb2.size hb3.size) _
  obtain ⟨A', c', es, hle, hC3⟩ := Kd.R_reads hR3
  obtain ⟨rfl, enn, rfl⟩ := Value.slice.inj es
  have HNN := Lib.hid hnn
  have HC4 := Lib.hid (show Kd.C k27 (w3.alloc (.cells #[.int .i64 (n : Int), .slice A nn c, .int .i64 clo] 24)) A nn ps from Kd.C_alloc (hnn ▸ hC3) _)
  clear hb2 hb3 hR3 es enn hC3 hnn
  generalize w3.alloc (.cells #[.int .i64 (n : Int), .slice A nn c, .int .i64 clo] 24) = w4 at *
  generalize w3.heap.size = g at *
  have HBK := Lib.hid hBK
  have HB4 := Lib.hid hB4
  have g1 := HBK.out.cell (j := 1) rfl
  clear hBK hB4 w3
  by_cases hz : nn = 0
  · subst hz
    go_wp2
    go_ret
    exact ⟨rfl, HB4.out⟩
  · have hz0 : ((nn : Int) = 0) = False := eq_false (by omega)
    have hz1 : ((nn : Int) == 0) = false := by simp; omega
    obtain ⟨i, hi⟩ : ∃ i : Nat, pk a2 (nn : Int) = (i : Int) := ⟨(pk a2 (nn : Int)).toNat, by have := pk_bound a2 (nn : Int) (by omega); omega⟩
    have HI := Lib.hid hi
    have hib := pk_bound a2 (nn : Int) (by omega)
    rw [hi] at hib
    have hin : (i : Int) < (nn : Int) := hib.2
    clear hi hib
    go_upto_region 6 with (first | (go_at_call 14; (with_reducible refine (lpick_same a2 (nn : Int) H2.out (by omega) (i : Int) HI.out _).mono ?_); rintro e w4 ⟨rfl, rfl⟩) | fail)
    obtain ⟨ad, rfl, x0, x1, x2, x3, x4, x5, x6⟩ := at_T27 HC4.out (i : Int) (by omega) hin
    rw [Int.toNat_natCast] at x0 x1 x2 x3 x4 x5 x6
    generalize hp : rd_T27 ps (i : Int) = p at *
    have HP := Lib.hid hp
    clear hp
    go_upto_region 7 with (fail)
    clear x0 x1 x2 x3 x4 x5 x6 g1
    change Code.wp _ _ _ _ (w4.alloc (.cells #[.int .i64 p.f0, .int .i64 p.f1, .int .i64 p.f2, .int .i64 p.f3, .int .i64 p.f4, .int .i64 p.f5, .int .i64 p.f6] 27))
    have hb5 : Below w4.heap.size w4 (w4.alloc (.cells #[.int .i64 p.f0, .int .i64 p.f1, .int .i64 p.f2, .int .i64 p.f3, .int .i64 p.f4, .int .i64 p.f5, .int .i64 p.f6] 27)) := (Below.refl _ _).alloc (Nat.le_refl _) _
    have HPB := Lib.hid (show Blk (w4.alloc (.cells #[.int .i64 p.f0, .int .i64 p.f1, .int .i64 p.f2, .int .i64 p.f3, .int .i64 p.f4, .int .i64 p.f5, .int .i64 p.f6] 27)) w4.heap.size 27 (pcells p) from Blk.new w4 27 (pcells p))
    have HC5 := Lib.hid (Kd.C_below HC4.out hb5)
    have HBK5 := Lib.hid (HBK.out.belowS hb5)
    have HB5 := Lib.hid (Below.trans HB4.out (hb5.mono HB4.out.size))
    clear hb5 HC4 HBK HB4
    generalize w4.alloc (.cells #[.int .i64 p.f0, .int .i64 p.f1, .int .i64 p.f2, .int .i64 p.f3, .int .i64 p.f4, .int .i64 p.f5, .int .i64 p.f6] 27) = w5 at *
    generalize w4.heap.size = g2 at *
    clear w4
    obtain ⟨m, hm⟩ : ∃ m, nn = m + 1 := ⟨nn - 1, by omega⟩
    have hi0 : (0 : Int) ≤ (m : Int) := by omega
    have hi1 : (m : Int) < (nn : Int) := by omega
    have hw : IntKind.i64.wrap ((nn : Int) - 1) = (m : Int) := by have := HLE.out; have := HNN.out; rw [IntWalk.i64_in _ (by omega)]; omega
    obtain ⟨ad2, ead, x0, x1, x2, x3, x4, x5, x6⟩ := at_T27 HC5.out (m : Int) hi0 hi1
    obtain rfl := Option.some.inj ead
    rw [Int.toNat_natCast] at x1
    generalize hq : rd_T27 ps (m : Int) = q at *
    have HQ := Lib.hid hq
    have HM2 := Lib.hid hm
    clear hq hm x0 x2 x3 x4 x5 x6 ead
    have g1 := HBK5.out.cell (j := 1) rfl
    have g2c := HBK5.out.cell (j := 2) rfl
    obtain ⟨qq, hqq⟩ : ∃ q_, pk a3 60 = q_ := ⟨_, rfl⟩
    have HQQ := Lib.hid hqq
    have hqb := pk_bound a3 60 (by omega)
    rw [hqq] at hqb
    have HQB := Lib.hid hqb
    clear hqq hqb
    have hcl : IntKind.i64.wrap (30 * clo) = 30 * clo := by have := valid_clo HOK.out.v; rw [IntWalk.i64_in _ (by omega)]
    obtain ⟨mx, hmx⟩ : ∃ mx, (if q.f1 < 30 * clo then 30 * clo else q.f1) = mx := ⟨_, rfl⟩
    obtain ⟨day, hday⟩ : ∃ day, (if mx + qq < 359 then mx + qq else 359) = day := ⟨_, rfl⟩
    have hsum : IntKind.i64.wrap (mx + qq) = mx + qq := by
      have := valid_clo HOK.out.v
      have hqb := HQB.out
      have hf := of_decide_eq_true (HOK.out.formed q (by rw [← HQ.out]; exact Go.Proofs.Ytooogaogbffjfaa.Bk.rd_mem ps m (by have := HNN.out; omega)))
      have h1 := hf.1
      rw [IntWalk.i64_in _ (by rw [← hmx]; split <;> omega)]
    have hS : w5.drew.cell? ⟨g, 1, none⟩ = some (.slice (some ad) nn c) ∧ w5.drew.cell? ⟨g, 2, none⟩ = some (.int .i64 clo) ∧ w5.drew.cell? ⟨(ad.add (m * 7)).block, (ad.add (m * 7)).off + 1, none⟩ = some (.int .i64 q.f1) := ⟨g1, g2c, x1⟩
    apply wp_mid (M := fun w' => w' = w5.drew)
    · go_region_held3 (fun w' => w'.cell? ⟨g, 1, none⟩ = some (.slice (some ad) nn c) ∧ w'.cell? ⟨g, 2, none⟩ = some (.int .i64 clo) ∧ w'.cell? ⟨(ad.add (m * 7)).block, (ad.add (m * 7)).off + 1, none⟩ = some (.int .i64 q.f1)) (first | (with_reducible exact hS) | fail) (first | (go_at_call 14; (with_reducible refine (lpick_same a3 60 H3.out (by omega) qq HQQ.out _).mono ?_); rintro e w' ⟨rfl, rfl⟩) | fail)
      all_goals exact ⟨rfl, rfl, rfl⟩
    rintro _ rfl
    have HBK6 := Lib.hid HBK5.out.drew
    have HPB6 := Lib.hid HPB.out.drew
    have HB6 := Lib.hid (below_drew1 HB5.out)
    have HC6 := Lib.hid (show Kd.C k27 w5.drew (some ad) nn ps from Kd.C_below HC5.out (below_drew1 (Below.refl _ _)))
    clear hS g1 g2c x1 HC5 HBK5 HPB HB5
    generalize w5.drew = w6 at *
    obtain ⟨amt, hamt⟩ : ∃ q_, pk a4 1000 = q_ := ⟨_, rfl⟩
    have HAMT := Lib.hid hamt
    have hab := pk_bound a4 1000 (by omega)
    rw [hamt] at hab
    have HAB := Lib.hid hab
    have HMX := Lib.hid hmx
    have HDAY := Lib.hid hday
    clear hamt hab hmx hday hsum hcl hw hi0 hi1
    have g1 := HBK6.out.cell (j := 1) rfl
    go_wp2_with (first | (go_at_call 14; (with_reducible refine (lpick_same a4 1000 H4.out (by omega) amt HAMT.out _).mono ?_); rintro e w6 ⟨rfl, rfl⟩) | fail)
    clear g1
    have hnb : nn ≤ 48 := by have := HLE.out; have := HNN.out; omega
    go_loopw [17, 18] (fun b v wr => ∃ k : Nat, k ≤ nn ∧ v = .int .i64 (k : Int) ∧ b = .bool ((ps.take k).any fun q => q.f6 == (i : Int)) ∧ w6 = wr) (fun b v wr => nn - (intOf v).toNat)
    case atStart => exact ⟨0, by omega, rfl, rfl, rfl⟩
    case round =>
      obtain ⟨k, hk, rfl, rfl, rfl⟩ := hrel
      by_cases hlt : k < nn
      · have hki : (k : Int) < (nn : Int) := by omega
        obtain ⟨adk, ead, x0, x1, x2, x3, x4, x5, x6⟩ := at_T27 HC6.out (k : Int) (by omega) hki
        obtain rfl := Option.some.inj ead
        rw [Int.toNat_natCast] at x6
        clear x0 x1 x2 x3 x4 x5 ead
        have hany : (ps.take (k + 1)).any (fun q => q.f6 == (i : Int)) = ((ps.take k).any (fun q => q.f6 == (i : Int)) || (rd_T27 ps (k : Int)).f6 == (i : Int)) := by
          rw [take_snoc ps k (by have := HNN.out; omega), List.any_append]
          simp
        generalize rd_T27 ps (k : Int) = y at *
        have HANY := Lib.hid hany
        clear hany
        have g1 := HBK6.out.cell (j := 1) rfl
        cases hb : (ps.take k).any fun q => q.f6 == (i : Int)
        · cases hy : (y.f6 == (i : Int))
          · have HB := Lib.hid hb
            have HY := Lib.hid hy
            clear hb
            go_wp2
            go_roundw
            case rel => exact ⟨k + 1, by omega, by go_num, by rw [HANY.out, HB.out, HY.out]; rfl, by first | rfl | trivial⟩
            case measure => simp [intOf]; omega
          · have HB := Lib.hid hb
            have HY := Lib.hid hy
            clear hb
            go_wp2
            go_roundw
            case rel => exact ⟨k + 1, by omega, by go_num, by rw [HANY.out, HB.out, HY.out]; rfl, by first | rfl | trivial⟩
            case measure => simp [intOf]; omega
        · have HB := Lib.hid hb
          clear hb
          go_wp2
          go_roundw
          case rel => exact ⟨k + 1, by omega, by go_num, by rw [HANY.out, HB.out]; rfl, by first | rfl | trivial⟩
          case measure => simp [intOf]; omega
      · generalize hbk : ((ps.take k).any fun q => q.f6 == (i : Int)) = bk
        rw [List.take_of_length_le (by have := HNN.out; omega)] at hbk
        have HBAK := Lib.hid hbk
        have hge : ¬ (k : Int) < (nn : Int) := by omega
        have b0 := HBK6.out.cell (j := 0) rfl
        have b1 := HBK6.out.cell (j := 1) rfl
        have b2 := HBK6.out.cell (j := 2) rfl
        have p0 := HPB6.out.cell (j := 0) rfl
        clear hbk
        have hq1 := (of_decide_eq_true (HOK.out.formed q (by rw [← HQ.out]; exact Go.Proofs.Ytooogaogbffjfaa.Bk.rd_mem ps m (by have := HNN.out; have := HM2.out; omega)))).1
        have hdb : (0 ≤ day ∧ day ≤ 359) ∧ (clo ≠ 12 → 30 * clo ≤ day ∧ dayOf ps ≤ day) := by
          have hmx := HMX.out
          have hday := HDAY.out
          have hqb := HQB.out
          have hcl := valid_clo HOK.out.v
          rw [dayOf_rd ps m (by rw [HNN.out, HM2.out]), HQ.out]
          rw [← hmx] at hday
          split at hday <;> split at hday <;> omega
        have hil : i < ps.length := by have := HNN.out; omega
        have HDB := Lib.hid hdb
        clear hq1 hdb
        by_cases hbad : p.f0 = 3 ∨ bk = true ∨ clo = 12
        · have hdis := disp_bad HOK.out i hil day amt HDB.out.1.2 (by rw [HP.out, HBAK.out]; exact hbad)
          have hd := bDisp (n : Int) clo (some ad) nn c ps HNN.out (i : Int) day amt _ hdis w6 HC6.out (by rw [← HNN.out]; exact hle) (by have := HLE.out; have := HNN.out; omega)
          unfold errB at hd
          dsimp only at hd
          have HD := Lib.hid hd
          clear hd hdis p0
          go_upto_region 15 with (first | (go_at_call 15; (with_reducible refine HD.out.mono ?_); rintro e w7 ⟨A7, c7, n7, hn7, hc7, rfl, hR7, hb7⟩) | fail)
          have hb8 : Below w6.heap.size w6 (w7.alloc (.cells #[.int .i64 0, .slice A7 n7 c7, .int .i64 0] 24)) := hb7.alloc hb7.size _
          have HBK8 := Lib.hid (HBK6.out.belowS hb8)
          have HPB8 := Lib.hid (HPB6.out.belowS hb8)
          have HB8 := Lib.hid (Below.trans HB6.out (hb8.mono HB6.out.size))
          clear hb7 hb8 hR7 hn7 hc7 b0 b1 b2
          generalize w7.alloc (.cells #[.int .i64 0, .slice A7 n7 c7, .int .i64 0] 24) = w8 at *
          have p0 := HPB8.out.cell (j := 0) rfl
          have b2 := HBK8.out.cell (j := 2) rfl
          by_cases h3 : p.f0 = 3
          · have h3' : (p.f0 == 3) = true := beq_iff_eq.2 h3
            clear hbad h3
            go_wp2
            go_ret
            exact ⟨rfl, HB8.out⟩
          · have h3' : (p.f0 == 3) = false := beq_eq_false_iff_ne.2 h3
            cases bk with
            | true =>
              clear hbad h3
              go_wp2
              go_ret
              exact ⟨rfl, HB8.out⟩
            | false =>
              have hc12 : (clo == 12) = true := beq_iff_eq.2 (by rcases hbad with h | h | h; exact absurd h h3; cases h; exact h)
              clear hbad h3
              go_wp2
              go_ret
              exact ⟨rfl, HB8.out⟩
        · -- GOOD
          have h3 : p.f0 ≠ 3 := fun h => hbad (.inl h)
          have hbf : bk = false := by cases bk; exact rfl; exact absurd (.inr (.inl rfl)) hbad
          have hc12 : clo ≠ 12 := fun h => hbad (.inr (.inr h))
          subst hbf
          have h30 := HDB.out.2 hc12
          have hbk0 : (ps.any fun q => q.f6 == (i : Int)) = false := HBAK.out
          have hl1 : ps.length + 1 < 200 := by have := HLE.out; omega
          have ha : 0 ≤ amt ∧ amt ≤ 1000000000000 := by have := HAB.out; omega
          have h3r : (rd_T27 ps (i : Int)).f0 ≠ 3 := by rw [HP.out]; exact h3
          have hgood := disp_good HOK.out i hil day amt HDB.out.1 h30.1 h30.2 hl1 ha h3r hbk0
          have hqok := dispL_ok HOK.out i hil day amt HDB.out.1 h30.1 h30.2 hl1 ha h3r hbk0
          have hag := disp_again i hil day amt HDB.out.1.2 hqok
          have hqlen : (dispL ps i day amt).length ≤ 50 := by have := HLE.out; unfold dispL; split <;> simp <;> omega
          have hst : ∀ s t : Int, tot (thoseL (stF s) 0 (dispL ps i day amt)) t = tot (thoseL (stF s) 0 ps) t + if day / 30 = s then dAdd p amt t else 0 := fun s t => by have h := st_disp ps i day amt s t ha.1; rw [HP.out] at h; exact h
          have how : ∀ s t : Int, tot (thoseL (owedF s (backs (dispL ps i day amt))) 0 (dispL ps i day amt)) t = tot (thoseL (owedF s (backs ps)) 0 ps) t + if p.f5 = s then dAdd p amt t else 0 := fun s t => by have h := ow_disp i hil day amt s t ha.1 h3r (valid_post (by rw [HOK.out.v, back_ok HOK.out i hil day HDB.out.1 h30.1 h30.2 (by omega) h3r hbk0]; rfl)) hqok; rw [HP.out] at h; exact h
          change _ = ((n : Int), dispL ps i day amt, clo, 0) at hgood
          generalize dispL ps i day amt = qs at *
          have hfm := of_decide_eq_true (HOK.out.formed _ (Go.Proofs.Ytooogaogbffjfaa.Bk.rd_mem ps i hil))
          rw [HP.out] at hfm
          have hin2 := HOK.out.in_ _ (Go.Proofs.Ytooogaogbffjfaa.Bk.rd_mem ps i hil)
          rw [HP.out] at hin2
          obtain ⟨a, hpa⟩ := Int.eq_ofNat_of_zero_le hin2.2.1
          obtain ⟨b, hpb⟩ := Int.eq_ofNat_of_zero_le hin2.1.1
          have hba : b ≠ a := fun e => hfm.2.2.2.1 (by rw [hpa, hpb, e])
          have hpan : a < n := by omega
          have hpbn : b < n := by omega
          have hp4 : 1 ≤ p.f4 ∧ p.f4 ≤ 1000000000000 := hfm.2.2.2.2.1
          have HPA := Lib.hid hpa
          have HPBB := Lib.hid hpb
          have HP4 := Lib.hid hp4
          have HST := Lib.hid hst
          have HOW := Lib.hid how
          have HQOK := Lib.hid hqok
          have HQL := Lib.hid hqlen
          have h3' : (p.f0 == 3) = false := beq_eq_false_iff_ne.2 h3
          have hc12' : (clo == 12) = false := beq_eq_false_iff_ne.2 hc12
          have hcc : nn ≤ c := by rw [← HNN.out]; exact hle
          have hd := bDisp (n : Int) clo (some ad) nn c ps HNN.out (i : Int) day amt _ hgood w6 HC6.out hcc (by omega)
          dsimp only at hd
          have HD := Lib.hid hd
          have HAG := Lib.hid hag
          clear hd hgood hqok hag hqlen hst how p0 hfm hin2 hpa hpb hp4 h3r hbk0 h30 ha hbad
          go_upto_region 15 with (first | (go_at_call 15; (with_reducible refine HD.out.mono ?_); rintro e w7 ⟨A7, c7, n7, hn7, hc7, rfl, hR7, hb7⟩) | fail)
          have hb8 : Below w6.heap.size w6 (w7.alloc (.cells #[.int .i64 (n : Int), .slice A7 n7 c7, .int .i64 clo] 24)) := hb7.alloc hb7.size _
          have hCK : Blk (w7.alloc (.cells #[.int .i64 (n : Int), .slice A7 n7 c7, .int .i64 clo] 24)) w7.heap.size 24 [.int .i64 (n : Int), .slice A7 n7 c7, .int .i64 clo] := Blk.newA w7 _ _ _ rfl
          have hQ7 := (Kd.R_reads' hR7).2.2
          rw [hn7] at hQ7
          have HN7 := Lib.hid hn7
          have HQ8 := Lib.hid (show Kd.C k27 (w7.alloc (.cells #[.int .i64 (n : Int), .slice A7 n7 c7, .int .i64 clo] 24)) A7 n7 qs from Kd.C_alloc hQ7 _)
          have HBK8 := Lib.hid (HBK6.out.belowS hb8)
          have HPB8 := Lib.hid (HPB6.out.belowS hb8)
          have HC8 := Lib.hid (Kd.C_below HC6.out hb8)
          have HB8 := Lib.hid (Below.trans HB6.out (hb8.mono HB6.out.size))
          clear hb7 hb8 hR7 hn7 hQ7 b0 b1 b2 HBK6 HPB6 HC6 HB6 HD
          generalize w7.alloc (.cells #[.int .i64 (n : Int), .slice A7 n7 c7, .int .i64 clo] 24) = w8 at *
          generalize w7.heap.size = g3 at *
          have HCK8 := Lib.hid hCK
          clear hCK w7
          have p0 := HPB8.out.cell (j := 0) rfl
          have b2 := HBK8.out.cell (j := 2) rfl
          have c0 := HCK8.out.cell (j := 0) rfl
          have c1 := HCK8.out.cell (j := 1) rfl
          have c2 := HCK8.out.cell (j := 2) rfl
          have hd := bDisp (n : Int) clo A7 n7 c7 qs HN7.out (i : Int) day amt _ HAG.out w8 HQ8.out hc7 (by have := HQL.out; have := HN7.out; omega)
          unfold errB at hd
          dsimp only at hd
          have HD := Lib.hid hd
          clear hd
          go_upto_region 18 with (first | (go_at_call 15; (with_reducible refine HD.out.mono ?_); rintro e w9 ⟨A9, c9, n9, hn9, hc9, rfl, hR9, hb9⟩) | fail)
          have hb10 : Below w8.heap.size w8 (w9.alloc (.cells #[.int .i64 0, .slice A9 n9 c9, .int .i64 0] 24)) := hb9.alloc hb9.size _
          have HQ := Lib.hid (Kd.C_below HQ8.out hb10)
          have HBK := Lib.hid (HBK8.out.belowS hb10)
          have HPBK := Lib.hid (HPB8.out.belowS hb10)
          have HCK := Lib.hid (HCK8.out.belowS hb10)
          have HC := Lib.hid (Kd.C_below HC8.out hb10)
          have HBW := Lib.hid (Below.trans HB8.out (hb10.mono HB8.out.size))
          clear hb9 hb10 hR9 hn9 hc9 p0 b2 c0 c1 c2 HQ8 HBK8 HPB8 HCK8 HC8 HB8 HD
          generalize w9.alloc (.cells #[.int .i64 0, .slice A9 n9 c9, .int .i64 0] 24) = W at *
          generalize w9.heap.size = g4 at *
          clear w9
          obtain ⟨dq, hdq⟩ : ∃ dq, Int.tdiv day 30 = dq := ⟨_, rfl⟩
          have hdq2 : day / 30 = dq := by rw [← hdq, Int.tdiv_eq_ediv_of_nonneg HDB.out.1.1]
          have hdw : IntKind.i64.wrap dq = dq := by have := HDB.out.1; rw [IntWalk.i64_in _ (by omega)]
          have hdw2 : IntKind.i64.wrap (Int.tdiv day 30) = dq := by rw [hdq, hdw]
          have HDQ := Lib.hid hdq2
          have HDW := Lib.hid hdw2
          have hn16 := HOK.out.acc
          clear hdq2 hdw hdw2 hdq
          go_wp2
          go_loopw [23] (fun v wr => ∃ k : Nat, k ≤ 6 ∧ v = .int .i64 (k : Int) ∧ Below W.heap.size W wr) (fun v wr => 6 - (intOf v).toNat)
          case atStart => exact ⟨0, by omega, rfl, Below.refl _ _⟩
          case round =>
            obtain ⟨k, hk, rfl, hbel⟩ := hrel
            have HBEL := Lib.hid hbel
            clear hbel
            by_cases hlt : k < 6
            · have hki : (k : Int) < 6 := by omega
              obtain ⟨f, hf⟩ : ∃ f : Nat → Int, (fun t : Nat => tot (thoseL (owedF (k : Int) (backs ps)) 0 ps) (t : Int)) = f := ⟨_, rfl⟩
              obtain ⟨f', hf'⟩ : ∃ f' : Nat → Int, (fun t : Nat => tot (thoseL (owedF (k : Int) (backs qs)) 0 qs) (t : Int)) = f' := ⟨_, rfl⟩
              have hff : ∀ t : Nat, f' t = f t + if p.f5 = (k : Int) then dAdd p amt (t : Int) else 0 := fun t => by rw [← hf', ← hf]; exact HOW.out (k : Int) (t : Int)
              have hfb : -200000000000000 ≤ f a ∧ f a ≤ 200000000000000 := by rw [← hf]; exact those_bound _ ps HOK.out.b1 HOK.out.len _
              have hfb2 : -200000000000000 ≤ f b ∧ f b ≤ 200000000000000 := by rw [← hf]; exact those_bound _ ps HOK.out.b1 HOK.out.len _
              have hx := bOwed (n : Int) clo (some ad) nn c ps HNN.out (k : Int) (L n f, 0) (by rw [HOK.out.owF (k : Int) (by omega), hf]) wr (Kd.C_below HC.out HBEL.out) hcc (by omega)
              dsimp only at hx
              have hy : ∀ V, Below W.heap.size W V → Calls Try.prog 24 #[.agg #[.int .i64 (n : Int), .slice A7 n7 c7, .int .i64 clo], .int .i64 (k : Int)] V fun e w' => ∃ (A' : Option Addr) (c' n' : Nat), (L n f').length = n' ∧ n' ≤ c' ∧ e = .returned (.tuple #[.slice A' n' c', .int .i64 0]) ∧ Kd.R (Kd.int .i64) 3 w' V.heap.size (fun _ => True) (.slice A' n' c') (L n f') ∧ Below V.heap.size V w' := fun V hV => bOwed (n : Int) clo A7 n7 c7 qs HN7.out (k : Int) (L n f', 0) (by rw [HQOK.out.owF (k : Int) (by omega), hf']) V (Kd.C_below HQ.out hV) hc7 (by have := HQL.out; have := HN7.out; omega)
              have HX := Lib.hid hx
              have HY := Lib.hid hy
              have HFB := Lib.hid (And.intro hfb hfb2)
              clear hx hy hf hf' hfb hfb2
              have b0 := (HBK.out.belowS HBEL.out).cell (j := 0) rfl
              have b1 := (HBK.out.belowS HBEL.out).cell (j := 1) rfl
              have b2 := (HBK.out.belowS HBEL.out).cell (j := 2) rfl
              by_cases hs : p.f5 = (k : Int)
              · have hks : ((k : Int) == p.f5) = true := beq_iff_eq.2 hs.symm
                have hyL : L n f' = L n fun t => f t + dAdd p amt (t : Int) := L_congr n _ _ fun t _ => by rw [hff, if_pos hs]
                have HYL := Lib.hid hyL
                clear hyL hff hs
                go_wp2_with (first | (go_at_call 24; (with_reducible refine HX.out.mono ?_); rintro e wx ⟨X, cx, nx, hnx, hcx, rfl, hRx, hbx⟩; have HBX := Lib.hid (Below.trans HBEL.out (hbx.mono HBEL.out.size)); rw [L_len] at hnx; subst hnx; have c0 := (HCK.out.belowS HBX.out).cell (j := 0) rfl; have c1 := (HCK.out.belowS HBX.out).cell (j := 1) rfl; have c2 := (HCK.out.belowS HBX.out).cell (j := 2) rfl) | (go_at_call 24; (with_reducible refine (HY.out _ HBX.out).mono ?_); rintro e wy ⟨Y, cy, ny, hny, hcy, rfl, hRy, hby⟩; have HBY := Lib.hid (Below.trans HBX.out (hby.mono HBX.out.size)); rw [L_len] at hny; subst hny; have d0 := (HBK.out.belowS HBY.out).cell (j := 0) rfl; have p5 := (HPBK.out.belowS HBY.out).cell (j := 5) rfl) | fail)
                obtain ⟨gx, cap, ex, hgx1, hgx2, _⟩ := Kd.R_form hRx (by rw [L_len]; omega)
                rw [L_len] at ex
                obtain ⟨rfl, _, rfl⟩ := Value.slice.inj ex
                have hWx : W.heap.size ≤ gx := by have := HBEL.out.size; omega
                have hRx2 := Kd.R_below hRx hby
                have hRy2 := Kd.R_bound hRy
                have HRX := Lib.hid hRx2
                have HRY := Lib.hid hRy2
                have HGX := Lib.hid (And.intro hgx2 hWx)
                clear hRx hRy hbx hby b0 b1 b2 c0 c1 c2 d0 p5 ex hgx1 hgx2 hWx hRx2 hRy2
                have p3 : wy.cell? ⟨g2, 3, none⟩ = some (.int .i64 (a : Int)) := by rw [← HPA.out]; exact (HPBK.out.belowS HBY.out).cell (j := 3) rfl
                have p4 : wy.cell? ⟨g2, 4, none⟩ = some (.int .i64 p.f4) := (HPBK.out.belowS HBY.out).cell (j := 4) rfl
                have hfa := HFB.out
                have hp4 := HP4.out
                have hab := HAB.out
                obtain ⟨u1, hu1⟩ : ∃ u, f a - p.f4 = u := ⟨_, rfl⟩
                obtain ⟨u2, hu2⟩ : ∃ u, u1 + amt = u := ⟨_, rfl⟩
                obtain ⟨v1, hv1⟩ : ∃ u, f b + p.f4 = u := ⟨_, rfl⟩
                obtain ⟨v2, hv2⟩ : ∃ u, v1 - amt = u := ⟨_, rfl⟩
                have xu1 : IntKind.i64.wrap (f a - p.f4) = u1 := by rw [IntWalk.i64_in _ (by omega), hu1]
                have xu2 : IntKind.i64.wrap (u1 + amt) = u2 := by rw [IntWalk.i64_in _ (by omega), hu2]
                have xv1 : IntKind.i64.wrap (f b + p.f4) = v1 := by rw [IntWalk.i64_in _ (by omega), hv1]
                have xv2 : IntKind.i64.wrap (v1 - amt) = v2 := by rw [IntWalk.i64_in _ (by omega), hv2]
                have hset : ((L n f).set a u2).set b v2 = L n f' := by rw [HYL.out, ← upd_L p a b HPA.out HPBB.out hba f amt, hu1, hu2, hv1, hv2]
                have HSET := Lib.hid hset
                have XV1 := Lib.hid xv1
                have XV2 := Lib.hid xv2
                clear hfa hp4 hab hu1 hu2 hv1 hv2 xv1 xv2 hset
                have xa := (Kd.R_celln (0 : Int) HRX.out (a : Int) (by omega) (by omega)).1
                rw [Int.toNat_natCast, show rdOf (0 : Int) (L n f) (a : Int) = f a from by have h := L_rd n f (a : Int) (by omega) (by omega); rwa [Int.toNat_natCast] at h] at xa
                have fa := (Kd.R_celln (0 : Int) HRX.out (a : Int) (by omega) (by omega)).2
                rw [Int.toNat_natCast] at fa
                generalize f a = xx at *
                have fc : ((a : Int) < (n : Int)) = True := eq_true (by omega)
                have fd : ((b : Int) < (n : Int)) = True := eq_true (by omega)
                go_still_tail 14, (by kernel_rfl)
                change wpList _ _ _ _ _ wy.drew
                have cf2 : wy.drew.frozen? ⟨gx, a, none⟩ = false := fa
                have cp2 : wy.drew.cell? ⟨gx, a, none⟩ = some (.int .i64 xx) := xa
                go_wp2
                have hb2 : Below W.heap.size W (wy.setCell ⟨gx, a, none⟩ (.int .i64 u2)).drew := below_drew1 (Below.setCell (p := ⟨gx, a, none⟩) HBY.out HGX.out.2 _)
                have hR2 := Kd.R_drew (Kd.R_putn HRX.out (a : Int) u2)
                rw [Int.toNat_natCast] at hR2
                have hRy2 := Kd.R_drew (Kd.R_far (p := ⟨gx, a, none⟩) HRY.out (fun k hk => by have := hk.2.1; have := HGX.out.1; show k ≠ gx; omega) (.int .i64 u2))
                clear cf2 cp2 xa fa fc p3 p4 xu1 xu2
                have hR2 : Kd.R (Kd.int .i64) 3 (wy.setCell ⟨gx, a, none⟩ (.int .i64 u2)).drew wr.heap.size (fun _ => True) (.slice (some ⟨gx, 0, none⟩) n cx) ((L n f).set a u2) := hR2
                generalize (wy.setCell ⟨gx, a, none⟩ (.int .i64 u2)).drew = w2 at *
                have q2 : w2.cell? ⟨g2, 2, none⟩ = some (.int .i64 (b : Int)) := by rw [← HPBB.out]; exact (HPBK.out.belowS hb2).cell (j := 2) rfl
                have q4 : w2.cell? ⟨g2, 4, none⟩ = some (.int .i64 p.f4) := (HPBK.out.belowS hb2).cell (j := 4) rfl
                have xb := (Kd.R_celln (0 : Int) hR2 (b : Int) (by omega) (by omega)).1
                rw [Int.toNat_natCast, show rdOf (0 : Int) ((L n f).set a u2) (b : Int) = f b from by rw [L_set]; have h := L_rd n (fun t => if t = a then u2 else f t) (b : Int) (by omega) (by omega); rw [Int.toNat_natCast, if_neg hba] at h; exact h] at xb
                have fb := (Kd.R_celln (0 : Int) hR2 (b : Int) (by omega) (by omega)).2
                rw [Int.toNat_natCast] at fb
                have xv1 := XV1.out
                have xv2 := XV2.out
                have HB2 := Lib.hid hb2
                have HR2 := Lib.hid hR2
                have HRY2 := Lib.hid hRy2
                clear hb2 hR2 hRy2
                generalize f b = yy at *
                go_still_tail 14, (by kernel_rfl)
                change wpList _ _ _ _ _ w2.drew
                have cf2 : w2.drew.frozen? ⟨gx, b, none⟩ = false := fb
                have cp2 : w2.drew.cell? ⟨gx, b, none⟩ = some (.int .i64 yy) := xb
                have hb3 : Below W.heap.size W (w2.setCell ⟨gx, b, none⟩ (.int .i64 v2)).drew := below_drew1 (Below.setCell (p := ⟨gx, b, none⟩) HB2.out HGX.out.2 _)
                have hR3 := (Kd.R_reads' (Kd.R_drew (Kd.R_putn HR2.out (b : Int) v2))).2.2
                rw [Int.toNat_natCast, HSET.out, L_len] at hR3
                have hRy3 := (Kd.R_reads' (Kd.R_drew (Kd.R_far (p := ⟨gx, b, none⟩) HRY2.out (fun k hk => by have := hk.2.1; have := HGX.out.1; show k ≠ gx; omega) (.int .i64 v2)))).2.2
                rw [L_len] at hRy3
                have hI := bInts_walk n (by omega) (some ⟨gx, 0, none⟩) Y cx cy (L n f') (L_len _ _) (w2.setCell ⟨gx, b, none⟩ (.int .i64 v2)).drew hR3 hcx hRy3 hcy
                have HI2 := Lib.hid hI
                have HB3 := Lib.hid hb3
                clear hI hb3 hR3 hRy3
                go_wp2_with (first | (go_at_call 23; (with_reducible refine HI2.out.mono ?_); rintro e wz ⟨rfl, hbz⟩; have HBZ := Lib.hid (Below.trans HB3.out (hbz.mono HB3.out.size))) | fail)
                go_roundw
                case rel => exact ⟨k + 1, by omega, by go_num, HBZ.out⟩
                case measure => simp [intOf]; omega
              · have hks : ((k : Int) == p.f5) = false := beq_eq_false_iff_ne.2 fun e => hs e.symm
                have hyL : L n f' = L n f := L_congr n _ _ fun t _ => by rw [hff, if_neg hs, Int.add_zero]
                have HYL := Lib.hid hyL
                clear hyL hff hs
                go_wp2_with (first | (go_at_call 24; (with_reducible refine HX.out.mono ?_); rintro e wx ⟨X, cx, nx, hnx, hcx, rfl, hRx, hbx⟩; have HBX := Lib.hid (Below.trans HBEL.out (hbx.mono HBEL.out.size)); rw [L_len] at hnx; subst hnx; have c0 := (HCK.out.belowS HBX.out).cell (j := 0) rfl; have c1 := (HCK.out.belowS HBX.out).cell (j := 1) rfl; have c2 := (HCK.out.belowS HBX.out).cell (j := 2) rfl) | (go_at_call 24; (with_reducible refine (HY.out _ HBX.out).mono ?_); rintro e wy ⟨Y, cy, ny, hny, hcy, rfl, hRy, hby⟩; have HBY := Lib.hid (Below.trans HBX.out (hby.mono HBX.out.size)); rw [L_len] at hny; subst hny; have d0 := (HBK.out.belowS HBY.out).cell (j := 0) rfl; have p5 := (HPBK.out.belowS HBY.out).cell (j := 5) rfl; have hI := bInts_walk n (by omega) X Y cx cy (L n f) (L_len _ _) wy (by have h := (Kd.R_reads' (Kd.R_below hRx hby)).2.2; rwa [L_len] at h) hcx (by have h := (Kd.R_reads' hRy).2.2; rw [L_len, HYL.out] at h; exact h) hcy; have HI2 := Lib.hid hI; clear hI) | (go_at_call 23; (with_reducible refine HI2.out.mono ?_); rintro e wz ⟨rfl, hbz⟩; have HBZ := Lib.hid (Below.trans HBY.out (hbz.mono HBY.out.size))) | fail)
                go_roundw
                case rel => exact ⟨k + 1, by omega, by go_num, HBZ.out⟩
                case measure => simp [intOf]; omega
            · have hke : k = 6 := by omega
              subst hke
              clear hk hlt
              have HBK3 := Lib.hid (HBK.out.belowS HBEL.out)
              have HPBK3 := Lib.hid (HPBK.out.belowS HBEL.out)
              have HCK3 := Lib.hid (HCK.out.belowS HBEL.out)
              have HC3 := Lib.hid (Kd.C_below HC.out HBEL.out)
              have HQ3 := Lib.hid (Kd.C_below HQ.out HBEL.out)
              have HBW3 := Lib.hid (Below.trans HBW.out (HBEL.out.mono HBW.out.size))
              clear HBK HPBK HCK HC HQ HBW HBEL
              obtain ⟨W3, rfl⟩ : ∃ W3 : World, W3 = wr := ⟨_, rfl⟩
              have hnl : ¬ ((6 : Nat) : Int) < 6 := by omega
              go_wp2
              clear hnl
              go_loopw [28] (fun v wr => ∃ k : Nat, k ≤ 12 ∧ v = .int .i64 (k : Int) ∧ Below W3.heap.size W3 wr) (fun v wr => 12 - (intOf v).toNat)
              case atStart => exact ⟨0, by omega, rfl, Below.refl _ _⟩
              case round =>
                obtain ⟨k, hk, rfl, hbel⟩ := hrel
                have HBEL := Lib.hid hbel
                clear hbel
                by_cases hlt : k < 12
                · have hki : (k : Int) < 12 := by omega
                  obtain ⟨f, hf⟩ : ∃ f : Nat → Int, (fun t : Nat => tot (thoseL (stF (k : Int)) 0 ps) (t : Int)) = f := ⟨_, rfl⟩
                  obtain ⟨f', hf'⟩ : ∃ f' : Nat → Int, (fun t : Nat => tot (thoseL (stF (k : Int)) 0 qs) (t : Int)) = f' := ⟨_, rfl⟩
                  have hff : ∀ t : Nat, f' t = f t + if dq = (k : Int) then dAdd p amt (t : Int) else 0 := fun t => by rw [← hf', ← hf]; exact by have h := HST.out (k : Int) (t : Int); rw [HDQ.out] at h; exact h
                  have hfb : -200000000000000 ≤ f a ∧ f a ≤ 200000000000000 := by rw [← hf]; exact those_bound _ ps HOK.out.b1 HOK.out.len _
                  have hfb2 : -200000000000000 ≤ f b ∧ f b ≤ 200000000000000 := by rw [← hf]; exact those_bound _ ps HOK.out.b1 HOK.out.len _
                  have hx := bStmt (n : Int) clo (some ad) nn c ps HNN.out (k : Int) (L n f, 0) (by rw [HOK.out.stF' (k : Int) (by omega), hf]) wr (Kd.C_below HC3.out HBEL.out) hcc (by omega)
                  dsimp only at hx
                  have hy : ∀ V, Below W3.heap.size W3 V → Calls Try.prog 19 #[.agg #[.int .i64 (n : Int), .slice A7 n7 c7, .int .i64 clo], .int .i64 (k : Int)] V fun e w' => ∃ (A' : Option Addr) (c' n' : Nat), (L n f').length = n' ∧ n' ≤ c' ∧ e = .returned (.tuple #[.slice A' n' c', .int .i64 0]) ∧ Kd.R (Kd.int .i64) 3 w' V.heap.size (fun _ => True) (.slice A' n' c') (L n f') ∧ Below V.heap.size V w' := fun V hV => bStmt (n : Int) clo A7 n7 c7 qs HN7.out (k : Int) (L n f', 0) (by rw [HQOK.out.stF' (k : Int) (by omega), hf']) V (Kd.C_below HQ3.out hV) hc7 (by have := HQL.out; have := HN7.out; omega)
                  have HX := Lib.hid hx
                  have HY := Lib.hid hy
                  have HFB := Lib.hid (And.intro hfb hfb2)
                  clear hx hy hf hf' hfb hfb2
                  have b0 := (HBK3.out.belowS HBEL.out).cell (j := 0) rfl
                  have b1 := (HBK3.out.belowS HBEL.out).cell (j := 1) rfl
                  have b2 := (HBK3.out.belowS HBEL.out).cell (j := 2) rfl
                  by_cases hs : dq = (k : Int)
                  · have hks : ((k : Int) == dq) = true := beq_iff_eq.2 hs.symm
                    have hyL : L n f' = L n fun t => f t + dAdd p amt (t : Int) := L_congr n _ _ fun t _ => by rw [hff, if_pos hs]
                    have HYL := Lib.hid hyL
                    clear hyL hff hs
                    have hdw2 := HDW.out
                    go_wp2_with (first | (go_at_call 19; (with_reducible refine HX.out.mono ?_); rintro e wx ⟨X, cx, nx, hnx, hcx, rfl, hRx, hbx⟩; have HBX := Lib.hid (Below.trans HBEL.out (hbx.mono HBEL.out.size)); rw [L_len] at hnx; subst hnx; have c0 := (HCK3.out.belowS HBX.out).cell (j := 0) rfl; have c1 := (HCK3.out.belowS HBX.out).cell (j := 1) rfl; have c2 := (HCK3.out.belowS HBX.out).cell (j := 2) rfl) | (go_at_call 19; (with_reducible refine (HY.out _ HBX.out).mono ?_); rintro e wy ⟨Y, cy, ny, hny, hcy, rfl, hRy, hby⟩; have HBY := Lib.hid (Below.trans HBX.out (hby.mono HBX.out.size)); rw [L_len] at hny; subst hny; have d0 := (HBK3.out.belowS HBY.out).cell (j := 0) rfl; have p5 := (HPBK3.out.belowS HBY.out).cell (j := 5) rfl) | fail)
                    obtain ⟨gx, cap, ex, hgx1, hgx2, _⟩ := Kd.R_form hRx (by rw [L_len]; omega)
                    rw [L_len] at ex
                    obtain ⟨rfl, _, rfl⟩ := Value.slice.inj ex
                    have hWx : W3.heap.size ≤ gx := by have := HBEL.out.size; omega
                    have hRx2 := Kd.R_below hRx hby
                    have hRy2 := Kd.R_bound hRy
                    have HRX := Lib.hid hRx2
                    have HRY := Lib.hid hRy2
                    have HGX := Lib.hid (And.intro hgx2 hWx)
                    clear hRx hRy hbx hby b0 b1 b2 c0 c1 c2 d0 p5 ex hgx1 hgx2 hWx hRx2 hRy2
                    have p3 : wy.cell? ⟨g2, 3, none⟩ = some (.int .i64 (a : Int)) := by rw [← HPA.out]; exact (HPBK3.out.belowS HBY.out).cell (j := 3) rfl
                    have p4 : wy.cell? ⟨g2, 4, none⟩ = some (.int .i64 p.f4) := (HPBK3.out.belowS HBY.out).cell (j := 4) rfl
                    have hfa := HFB.out
                    have hp4 := HP4.out
                    have hab := HAB.out
                    obtain ⟨u1, hu1⟩ : ∃ u, f a - p.f4 = u := ⟨_, rfl⟩
                    obtain ⟨u2, hu2⟩ : ∃ u, u1 + amt = u := ⟨_, rfl⟩
                    obtain ⟨v1, hv1⟩ : ∃ u, f b + p.f4 = u := ⟨_, rfl⟩
                    obtain ⟨v2, hv2⟩ : ∃ u, v1 - amt = u := ⟨_, rfl⟩
                    have xu1 : IntKind.i64.wrap (f a - p.f4) = u1 := by rw [IntWalk.i64_in _ (by omega), hu1]
                    have xu2 : IntKind.i64.wrap (u1 + amt) = u2 := by rw [IntWalk.i64_in _ (by omega), hu2]
                    have xv1 : IntKind.i64.wrap (f b + p.f4) = v1 := by rw [IntWalk.i64_in _ (by omega), hv1]
                    have xv2 : IntKind.i64.wrap (v1 - amt) = v2 := by rw [IntWalk.i64_in _ (by omega), hv2]
                    have hset : ((L n f).set a u2).set b v2 = L n f' := by rw [HYL.out, ← upd_L p a b HPA.out HPBB.out hba f amt, hu1, hu2, hv1, hv2]
                    have HSET := Lib.hid hset
                    have XV1 := Lib.hid xv1
                    have XV2 := Lib.hid xv2
                    clear hfa hp4 hab hu1 hu2 hv1 hv2 xv1 xv2 hset
                    have xa := (Kd.R_celln (0 : Int) HRX.out (a : Int) (by omega) (by omega)).1
                    rw [Int.toNat_natCast, show rdOf (0 : Int) (L n f) (a : Int) = f a from by have h := L_rd n f (a : Int) (by omega) (by omega); rwa [Int.toNat_natCast] at h] at xa
                    have fa := (Kd.R_celln (0 : Int) HRX.out (a : Int) (by omega) (by omega)).2
                    rw [Int.toNat_natCast] at fa
                    generalize f a = xx at *
                    have fc : ((a : Int) < (n : Int)) = True := eq_true (by omega)
                    have fd : ((b : Int) < (n : Int)) = True := eq_true (by omega)
                    go_still_tail 14, (by kernel_rfl)
                    change wpList _ _ _ _ _ wy.drew
                    have cf2 : wy.drew.frozen? ⟨gx, a, none⟩ = false := fa
                    have cp2 : wy.drew.cell? ⟨gx, a, none⟩ = some (.int .i64 xx) := xa
                    go_wp2
                    have hb2 : Below W3.heap.size W3 (wy.setCell ⟨gx, a, none⟩ (.int .i64 u2)).drew := below_drew1 (Below.setCell (p := ⟨gx, a, none⟩) HBY.out HGX.out.2 _)
                    have hR2 := Kd.R_drew (Kd.R_putn HRX.out (a : Int) u2)
                    rw [Int.toNat_natCast] at hR2
                    have hRy2 := Kd.R_drew (Kd.R_far (p := ⟨gx, a, none⟩) HRY.out (fun k hk => by have := hk.2.1; have := HGX.out.1; show k ≠ gx; omega) (.int .i64 u2))
                    clear cf2 cp2 xa fa fc p3 p4 xu1 xu2
                    have hR2 : Kd.R (Kd.int .i64) 3 (wy.setCell ⟨gx, a, none⟩ (.int .i64 u2)).drew wr.heap.size (fun _ => True) (.slice (some ⟨gx, 0, none⟩) n cx) ((L n f).set a u2) := hR2
                    generalize (wy.setCell ⟨gx, a, none⟩ (.int .i64 u2)).drew = w2 at *
                    have q2 : w2.cell? ⟨g2, 2, none⟩ = some (.int .i64 (b : Int)) := by rw [← HPBB.out]; exact (HPBK3.out.belowS hb2).cell (j := 2) rfl
                    have q4 : w2.cell? ⟨g2, 4, none⟩ = some (.int .i64 p.f4) := (HPBK3.out.belowS hb2).cell (j := 4) rfl
                    have xb := (Kd.R_celln (0 : Int) hR2 (b : Int) (by omega) (by omega)).1
                    rw [Int.toNat_natCast, show rdOf (0 : Int) ((L n f).set a u2) (b : Int) = f b from by rw [L_set]; have h := L_rd n (fun t => if t = a then u2 else f t) (b : Int) (by omega) (by omega); rw [Int.toNat_natCast, if_neg hba] at h; exact h] at xb
                    have fb := (Kd.R_celln (0 : Int) hR2 (b : Int) (by omega) (by omega)).2
                    rw [Int.toNat_natCast] at fb
                    have xv1 := XV1.out
                    have xv2 := XV2.out
                    have HB2 := Lib.hid hb2
                    have HR2 := Lib.hid hR2
                    have HRY2 := Lib.hid hRy2
                    clear hb2 hR2 hRy2
                    generalize f b = yy at *
                    go_still_tail 14, (by kernel_rfl)
                    change wpList _ _ _ _ _ w2.drew
                    have cf2 : w2.drew.frozen? ⟨gx, b, none⟩ = false := fb
                    have cp2 : w2.drew.cell? ⟨gx, b, none⟩ = some (.int .i64 yy) := xb
                    have hb3 : Below W3.heap.size W3 (w2.setCell ⟨gx, b, none⟩ (.int .i64 v2)).drew := below_drew1 (Below.setCell (p := ⟨gx, b, none⟩) HB2.out HGX.out.2 _)
                    have hR3 := (Kd.R_reads' (Kd.R_drew (Kd.R_putn HR2.out (b : Int) v2))).2.2
                    rw [Int.toNat_natCast, HSET.out, L_len] at hR3
                    have hRy3 := (Kd.R_reads' (Kd.R_drew (Kd.R_far (p := ⟨gx, b, none⟩) HRY2.out (fun k hk => by have := hk.2.1; have := HGX.out.1; show k ≠ gx; omega) (.int .i64 v2)))).2.2
                    rw [L_len] at hRy3
                    have hI := bInts_walk n (by omega) (some ⟨gx, 0, none⟩) Y cx cy (L n f') (L_len _ _) (w2.setCell ⟨gx, b, none⟩ (.int .i64 v2)).drew hR3 hcx hRy3 hcy
                    have HI2 := Lib.hid hI
                    have HB3 := Lib.hid hb3
                    clear hI hb3 hR3 hRy3
                    go_wp2_with (first | (go_at_call 23; (with_reducible refine HI2.out.mono ?_); rintro e wz ⟨rfl, hbz⟩; have HBZ := Lib.hid (Below.trans HB3.out (hbz.mono HB3.out.size))) | fail)
                    go_roundw
                    case rel => exact ⟨k + 1, by omega, by go_num, HBZ.out⟩
                    case measure => simp [intOf]; omega
                  · have hks : ((k : Int) == dq) = false := beq_eq_false_iff_ne.2 fun e => hs e.symm
                    have hyL : L n f' = L n f := L_congr n _ _ fun t _ => by rw [hff, if_neg hs, Int.add_zero]
                    have HYL := Lib.hid hyL
                    clear hyL hff hs
                    have hdw2 := HDW.out
                    go_wp2_with (first | (go_at_call 19; (with_reducible refine HX.out.mono ?_); rintro e wx ⟨X, cx, nx, hnx, hcx, rfl, hRx, hbx⟩; have HBX := Lib.hid (Below.trans HBEL.out (hbx.mono HBEL.out.size)); rw [L_len] at hnx; subst hnx; have c0 := (HCK3.out.belowS HBX.out).cell (j := 0) rfl; have c1 := (HCK3.out.belowS HBX.out).cell (j := 1) rfl; have c2 := (HCK3.out.belowS HBX.out).cell (j := 2) rfl) | (go_at_call 19; (with_reducible refine (HY.out _ HBX.out).mono ?_); rintro e wy ⟨Y, cy, ny, hny, hcy, rfl, hRy, hby⟩; have HBY := Lib.hid (Below.trans HBX.out (hby.mono HBX.out.size)); rw [L_len] at hny; subst hny; have d0 := (HBK3.out.belowS HBY.out).cell (j := 0) rfl; have p5 := (HPBK3.out.belowS HBY.out).cell (j := 5) rfl; have hI := bInts_walk n (by omega) X Y cx cy (L n f) (L_len _ _) wy (by have h := (Kd.R_reads' (Kd.R_below hRx hby)).2.2; rwa [L_len] at h) hcx (by have h := (Kd.R_reads' hRy).2.2; rw [L_len, HYL.out] at h; exact h) hcy; have HI2 := Lib.hid hI; clear hI) | (go_at_call 23; (with_reducible refine HI2.out.mono ?_); rintro e wz ⟨rfl, hbz⟩; have HBZ := Lib.hid (Below.trans HBY.out (hbz.mono HBY.out.size))) | fail)
                    go_roundw
                    case rel => exact ⟨k + 1, by omega, by go_num, HBZ.out⟩
                    case measure => simp [intOf]; omega
                · have hke : k = 12 := by omega
                  subst hke
                  clear hk hlt
                  have HB9 := Lib.hid (Below.trans HBW3.out (HBEL.out.mono HBW3.out.size))
                  have hnl : ¬ ((12 : Nat) : Int) < 12 := by omega
                  go_wp2
                  go_ret
                  exact ⟨rfl, HB9.out⟩
end Go.Proofs.Ytooogaogbffjfaa.Ext
end
section
/-
  The law BookDisputes answers true: its contract in the print's form, and its pure statement.
-/
set_option linter.unusedVariables false
set_option linter.unusedSimpArgs false
namespace Go.Proofs.Ytooogaogbffjfaa.PH
open Go.RowKit Go.Proofs.YtooogaogbffjfaaW.PrintWords Go.Proofs.YtooogaogbffjfaaW.PrintLast Go.Proofs.YtooogaogbffjfaaW.PrintMore Go.Proofs.Ytooogaogbffjfaa.PK Go.Proofs.Ytooogaogbffjfaa.Ext Go.Proofs.Ytooogaogbffjfaa.Bk Go.Proofs.Ytooogaogbffjfaa.Pure
theorem made_len (a : Int) (l : List S48) : (madeF a l).2.1.length ≤ 48 := by
  have h := (run_ok (accM a) (accM_bound a) (l.take 24)).2.1
  rw [List.length_take] at h
  have : (madeF a l).2.1 = (runM (accM a) (l.take 24)).1 := rfl
  rw [this]
  omega
def airchecklaw24_BookDisputes.f (k : Nat) (a0 : Int) (l1 : List S48) (a2 a3 a4 : Int) : Option Bool := if (I64 a0 ∧ ∀ x ∈ l1, I64x x) ∧ I64 a2 ∧ I64 a3 ∧ I64 a4 then some true else none
theorem airchecklaw24_BookDisputes.calls (k : Nat) (a0 : Int) (A1 : Option Addr) (c1 : Nat) (l1 : List S48) (a2 a3 a4 : Int) (r : Bool) (w : World) (hr1 : Kd.C k48 w A1 l1.length l1) (hc1 : l1.length ≤ c1) (h : airchecklaw24_BookDisputes.f k a0 l1 a2 a3 a4 = some r) :
    Calls Try.prog 6 #[.int .i64 a0, .slice A1 l1.length c1, .int .i64 a2, .int .i64 a3, .int .i64 a4] w fun e w' => e = .returned (.bool r) ∧ Below w.heap.size w w' := by
  unfold airchecklaw24_BookDisputes.f at h
  split at h
  · rename_i hc
    obtain rfl := Option.some.inj h
    have hb := accM_bound a0
    refine dispLaw_walk a0 A1 l1.length c1 l1 rfl a2 a3 a4 hc.2.1 hc.2.2.1 hc.2.2.2 (accM a0).toNat (madeF a0 l1).2.1 (madeF a0 l1).2.2 ?_ (made_ok a0 l1) (made_len a0 l1) w hr1 hc1
    unfold aircheckref24_Made.f
    rw [if_pos hc.1, show (((accM a0).toNat : Nat) : Int) = (madeF a0 l1).1 by show _ = accM a0; omega]
  · cases h
end Go.Proofs.Ytooogaogbffjfaa.PH
namespace Go.Proofs.Ytooogaogbffjfaa.Pure
open Go.RowKit Go.Proofs.YtooogaogbffjfaaW.PrintWords Go.Proofs.YtooogaogbffjfaaW.PrintLast Go.Proofs.YtooogaogbffjfaaW.PrintMore Go.Proofs.Ytooogaogbffjfaa.PK Go.Proofs.Ytooogaogbffjfaa.Ext Go.Proofs.Ytooogaogbffjfaa.Bk
theorem BookDisputes (a0 : Int) (l1 : List S48) (a2 a3 a4 : Int) (w0 : (Lit.int .i64 a0).wf = true) (w1 : ∀ x ∈ l1, W64 x.f0 ∧ W64 x.f1 ∧ W64 x.f2 ∧ W64 x.f3 ∧ W64 x.f4) (w2 : (Lit.int .i64 a2).wf = true) (w3 : (Lit.int .i64 a3).wf = true) (w4 : (Lit.int .i64 a4).wf = true) : ∃ k, PH.airchecklaw24_BookDisputes.f k a0 l1 a2 a3 a4 = some true :=
  ⟨0, by unfold PH.airchecklaw24_BookDisputes.f; rw [if_pos ⟨⟨i64_wf w0, i64x_wf w1⟩, i64_wf w2, i64_wf w3, i64_wf w4⟩]⟩
end Go.Proofs.Ytooogaogbffjfaa.Pure
end
section
/-
  The law BookDisputes answers true for every input: its row and its tied card. Conditions: the row's own (the listed table reads as the program's start lays it; the card ties that to the program's text).
-/
namespace Go.Proofs.Ytooogaogbffjfaa.bookDisputes
open Go.ChangeShapes Go.WideShapes Go.ChangeAt Go.RowKit
open Go.ChangeMaps (open_string shut_string)
set_option linter.unusedVariables false
theorem own : ownKnob Try.prog.godebug = none := by kernel_rfl
theorem laidOut : laidOutB Try.prog = true := by kernel_rfl
set_option maxRecDepth 100000 in
set_option maxHeartbeats 1000000 in
theorem lifted (os : Os) (started : os.Started) (H : Type) (enc : TypeId × Value → H) :
    ReturnsInHanded {} Try.checked os 6 .any (Rows.bookDisputesSpec.pre6 enc Try.prog Try.f6 Rows.bookDisputesRow.domain false) (Rows.bookDisputesSpec.post enc Try.prog Try.f6 false true false false) := by
  refine returnsInHanded_of_change_sized (C := Try.checked) own started (by kernel_rfl) Try.func6
    (ChangeSpec.witness6 (enc := enc) (C := Try.checked) false ⟨#[], #[.int .i64 0, .slice none 0 0, .int .i64 0, .int .i64 0, .int .i64 0], []⟩ 8 (by kernel_rfl) (by kernel_rfl) (by kernel_rfl) (by kernel_rfl)) ?_
  intro W base args ds gs before hval0 hW hcnd hsz0 _
  have hsz : (DataW.weightsEach Try.prog (Try.f6.params.toList ++ Rows.bookDisputesSpec.plain.varTypes Try.prog) (ds ++ gs)).all (· ≤ reachBytes) = true := hsz0
  have hval : ∀ (j : Nat) t v, Try.f6.params[j]? = some t → args[j]? = some v → Value.okWide Try.prog W .any base t v := hval0
  have hW' := hW
  obtain ⟨p, q, hA0, hV, rfl, hfz, hnd⟩ := hW
  have hA : DataW.TrodAll enc Try.prog W 0 (fun _ => true) true Try.f6.params.toList args.toList ds p := hA0
  rw [Try.params6] at hA hval hsz
  obtain ⟨v0, vs0, d0, ds0, p0, q0, hargs, rfl, rfl, h0, r0⟩ := trodAll_cons hA
  obtain ⟨v1, vs1, d1, ds1, p1, q1, rfl, rfl, rfl, h1, r1⟩ := trodAll_cons r0
  obtain ⟨v2, vs2, d2, ds2, p2, q2, rfl, rfl, rfl, h2, r2⟩ := trodAll_cons r1
  obtain ⟨v3, vs3, d3, ds3, p3, q3, rfl, rfl, rfl, h3, r3⟩ := trodAll_cons r2
  obtain ⟨v4, vs4, d4, ds4, p4, q4, rfl, rfl, rfl, h4, r4⟩ := trodAll_cons r3
  obtain ⟨rfl, rfl, rfl⟩ := trodAll_nil r4
  obtain rfl : args = #[v0, v1, v2, v3, v4] := by cases args; simp_all
  obtain ⟨rfl, rfl⟩ := trodVars_none hV
  obtain ⟨a0, rfl, rfl, rfl, w0⟩ := open_int Try.underlying3 (hval 0 3 v0 rfl rfl) h0
  obtain ⟨a1, len1, cap1, rfl⟩ := okWide_slice Try.underlying25 (hval 1 25 v1 rfl rfl)
  have k1 := h1
  have lt1 : ∀ x ∈ p1, x.block < W.heap.size := by obtain ⟨m, hm⟩ := k1; exact DataW.trod_lt m _ _ _ hm
  obtain ⟨fuel1, hf1⟩ := h1
  obtain ⟨l1, rfl, hr1, hm1, hw1, hc1⟩ := Ext.rows48 (A := a1) (len := len1) (cap := cap1) hf1
  obtain ⟨a2, rfl, rfl, rfl, w2⟩ := open_int Try.underlying3 (hval 2 3 v2 rfl rfl) h2
  obtain ⟨a3, rfl, rfl, rfl, w3⟩ := open_int Try.underlying3 (hval 3 3 v3 rfl rfl) h3
  obtain ⟨a4, rfl, rfl, rfl, w4⟩ := open_int Try.underlying3 (hval 4 3 v4 rfl rfl) h4
  clear hA0 hval0 hsz0 hsz
  obtain ⟨k, hk⟩ := Pure.BookDisputes a0 l1 a2 a3 a4 w0 hw1 w2 w3 w4
  refine (PH.airchecklaw24_BookDisputes.calls k a0 _ _ l1 a2 a3 a4 true W hr1 hc1 hk).mono fun e W' ⟨he, bel⟩ => ?_
  subst he
  exact ⟨_, rfl, _, _, _, [], _, [], hW', trodAll_mk1 (shut_bool Try.underlying4 _), (trodAll_cons_mk (shut_int Try.underlying3 w0) (trodAll_cons_mk (Below.trod laidOut (by kernel_rfl) (of_decide_eq_true (by kernel_rfl)) k1 bel lt1) (trodAll_cons_mk (shut_int Try.underlying3 w2) (trodAll_cons_mk (shut_int Try.underlying3 w3) (trodAll_cons_mk (shut_int Try.underlying3 w4) trodAll_mk0))))), rfl, bel.frame _, fun h => by cases h⟩
theorem over : Rows.bookDisputesRow.holds Try.pinned (OpenSpec.ofChange Rows.bookDisputesSpec) :=
  OpenClaim.holds_of_wide 6 Try.f6 rfl rfl rfl rfl rfl rfl rfl ⟨rfl, rfl, rfl, rfl, rfl⟩ rfl rfl rfl rfl rfl (by kernel_rfl) Try.func6 (by kernel_rfl)
    (of_decide_eq_true (by kernel_rfl)) (by unfold Func.isWrapper; first | (rw [if_pos (by decide +kernel)]; kernel_rfl) | (rw [if_neg (by decide +kernel)]; exact ⟨rfl, rfl⟩))
    (fun os started H enc _ => lifted os started H enc)
end Go.Proofs.Ytooogaogbffjfaa.bookDisputes
namespace Go.Proofs.Ytooogaogbffjfaa
theorem bookDisputes_holds : Rows.BookDisputesSaid := bookDisputes.over
#print axioms bookDisputes_holds
end Go.Proofs.Ytooogaogbffjfaa
end
