import Derived.Test.YtooogaogbffjfaaDoorMBookHeadsMatchReferencebg
import Derived.Test.YtooogaogbffjfaaDoorMBookHeadsMatchReferencean
/-
  Texts of this claim, one behind the other: what they prove stands above each.
-/
section
set_option linter.unusedVariables false
set_option linter.unusedSimpArgs false
namespace Go.Proofs.YtooogaogbffjfaaDoor.Ext
set_option maxRecDepth 100000
open Go.RowKit Go.Shelf Go.Proofs.YtooogaogbffjfaaDoorW.PrintWords Go.Proofs.YtooogaogbffjfaaDoorW.PrintLast Go.Proofs.YtooogaogbffjfaaDoorW.PrintMore Go.Proofs.YtooogaogbffjfaaDoor.PK Go.Proofs.YtooogaogbffjfaaDoor.Bk
attribute [local go_sem] Oper.semAt_some
theorem formed_ok {n : Int} {p : S27} (hn : -1000 ≤ n ∧ n ≤ 1000) (h : formedB n p = true) : okP p = true := by
  unfold formedB at h
  have h := of_decide_eq_true h
  have hw : wrap64 (n - 1) = n - 1 := by unfold wrap64; omega
  rw [hw] at h
  simp only [okP, fldL, List.all_cons, List.all_nil, Bool.and_true, Bool.and_eq_true, encOk, decide_eq_true_eq]
  omega
theorem valid_ok {acc clo : Int} {ps : List S27} (h : validB acc ps clo = true) : ∀ p ∈ ps, okP p = true := fun p hp => formed_ok (by have := valid_acc h; omega) (valid_formed h p hp)
def headF (acc clo : Int) (ps : List S27) : ByteArray × Int := if validB acc ps clo then (headP ps, 0) else (⟨#[]⟩, 240)
theorem zero_rep (w : World) : Calls Tryd.prog 34 #[.string ⟨#[0]⟩, .int .i64 32] w fun e w' => e = .returned (.string zz) ∧ Below w.heap.size w w' := zz_rep ▸ YtooogaogbffjfaaDoorrep.main ⟨#[0]⟩ 32 w (by omega) (by omega) (by decide) (by decide)
theorem encode_yes (p : S27) (h : okP p = true) (w : World) : Calls Tryd.prog 6 #[.agg #[.int .i64 p.f0, .int .i64 p.f1, .int .i64 p.f2, .int .i64 p.f3, .int .i64 p.f4, .int .i64 p.f5, .int .i64 p.f6]] w fun e w' => e = .returned (.tuple #[.string (txt p), .int .i64 0]) ∧ Below w.heap.size w w' := by
  have := encode_walk p w
  unfold encF at this
  rw [h] at this
  exact this
set_option maxHeartbeats 2000000 in
theorem head_walk (acc clo : Int) (A : Option Addr) (c : Nat) (ps : List S27) (w : World) (hG : GL w) (hr : Kd.C k27 w A ps.length ps) (hn : ps.length ≤ 1000000) :
    Calls Tryd.prog 9 #[.agg #[.int .i64 acc, .slice A ps.length c, .int .i64 clo]] w fun e w' => e = .returned (.tuple #[.string (headF acc clo ps).1, .int .i64 (headF acc clo ps).2]) ∧ Below w.heap.size w w' := by
  have HR := Lib.hid hr
  have HG := Lib.hid hG
  clear hr hG
  cases ho : okAll acc [] ps with
  | false =>
    have HO := Lib.hid ho
    have hv : headF acc clo ps = (⟨#[]⟩, 240) := by unfold headF validB; rw [ho, Bool.false_and]; rfl
    rw [hv]
    clear ho hv
    go_enter Tryd.func9, Tryd.ntmps9
    go_wp2_with (first | (go_at_call 33; (with_reducible refine (open_no acc clo A c ps _ (Kd.C_alloc HR.out _) hn HO.out).mono ?_); rintro e w2 ⟨rfl, hb2⟩) | fail)
    go_ret2
    exact ⟨rfl, Below.trans ((Below.refl _ _).alloc (Nat.le_refl _) _) (hb2.mono (by simp))⟩
  | true =>
    cases hi : inB acc clo with
    | false =>
      have HO := Lib.hid ho
      have HI := Lib.hid hi
      have hv : headF acc clo ps = (⟨#[]⟩, 240) := by unfold headF validB; rw [hi, Bool.and_false]; rfl
      rw [hv]
      clear ho hv hi
      go_enter Tryd.func9, Tryd.ntmps9
      go_wp2_with (first | (go_at_call 33; (with_reducible refine (open_yes acc clo A c ps _ (Kd.C_alloc HR.out _) hn HO.out false HI.out).mono ?_); rintro e w2 ⟨B, rfl, hL2⟩) | fail)
      go_ret2
      exact ⟨rfl, Below.trans ((Below.refl _ _).alloc (Nat.le_refl _) _) (hL2.1.mono (by simp))⟩
    | true =>
      have HO := Lib.hid ho
      have HI := Lib.hid hi
      have hva : validB acc ps clo = true := by unfold validB; rw [ho, hi]; rfl
      have hv : headF acc clo ps = (headP ps, 0) := by unfold headF; rw [hva]; rfl
      rw [hv]
      have HK := Lib.hid (valid_ok hva)
      clear ho hv hi hva
      go_enter Tryd.func9, Tryd.ntmps9
      go_upto_region 2 with (first | (go_at_call 33; (with_reducible refine (open_yes acc clo A c ps _ (Kd.C_alloc HR.out _) hn HO.out true HI.out).mono ?_); rintro e w2 ⟨B, rfl, hL2⟩) | fail)
      have hL0 := hL2.lower ((Below.refl _ _).alloc (Nat.le_refl _) _)
      clear hL2
      obtain ⟨n, hnl⟩ : ∃ n, ps.length = n := ⟨_, rfl⟩
      rw [hnl] at hn ⊢
      have HN := Lib.hid hnl
      clear hnl
      have HBW := Lib.hid hL0.1
      obtain ⟨_, _, v, hLed, hRow, _, _⟩ := hL0
      obtain ⟨A1, c1, rfl⟩ := Kd.R_slice hRow
      have hC1 := (Kd.R_reads' hRow).2.2
      rw [HN.out] at hC1
      have b1 : w2.cell? ⟨B, 1, none⟩ = some (.slice A1 n c1) := by rw [← HN.out]; exact hLed.cell rfl
      have HC1 := Lib.hid hC1
      have HB1 := Lib.hid b1
      clear hLed hRow hC1 b1
      go_upto_region 5 with (first | (go_at_call 34; (with_reducible refine (zero_rep _).mono ?_); rintro e w3 ⟨rfl, hb3⟩) | fail)
      have b1 := keepB hb3 HB1.out
      have hbw3 := Below.trans HBW.out (hb3.mono HBW.out.size)
      have HC3 := Lib.hid (Kd.C_below HC1.out hb3)
      have HW3 := Lib.hid hbw3
      clear hbw3 hb3 HB1 HC1
      go_wp2
      go_loopw [6, 25] (fun vh vi wr => ∃ k : Nat, k ≤ n ∧ vi = .int .i64 (k : Int) ∧ vh = .string (headP (ps.take k)) ∧ Hid (Below w3.heap.size w3 wr)) (fun vh vi wr => n - (intOf vi).toNat)
      case atStart => exact ⟨0, by omega, rfl, rfl, Lib.hid (Below.refl _ _)⟩
      case round =>
        obtain ⟨k, hk, rfl, rfl, HWR⟩ := hrel
        by_cases hlt : k < n
        · have hki : (k : Int) < (n : Int) := by omega
          obtain ⟨ad, rfl, x0, x1, x2, x3, x4, x5, x6⟩ := at_T27 (Kd.C_below HC3.out HWR.out) (k : Int) (by omega) hki
          rw [Int.toNat_natCast] at x0 x1 x2 x3 x4 x5 x6
          have hkl : k < ps.length := by rw [HN.out]; exact hlt
          have hrd : rd_T27 ps (k : Int) = ps[k] := by unfold rd_T27; rw [Int.toNat_natCast, List.getD_eq_getElem?_getD, List.getElem?_eq_getElem hkl]; rfl
          have ht : ps.take (k + 1) = ps.take k ++ [rd_T27 ps (k : Int)] := by
            rw [List.take_add_one, List.getElem?_eq_getElem hkl, hrd]
            rfl
          have hok : okP (rd_T27 ps (k : Int)) = true := by rw [hrd]; exact HK.out _ (List.getElem_mem hkl)
          generalize rd_T27 ps (k : Int) = p at *
          have hsz := txt_size p hok
          have hhs := headP_size (ps.take k)
          obtain ⟨h0, hh0⟩ : ∃ h0, headP (ps.take k) = h0 := ⟨_, rfl⟩
          have hst := headP_snoc (ps.take k) p
          rw [← ht, hh0] at hst
          rw [hh0] at hhs ⊢
          have hG3 := HG.out.below (Below.trans HW3.out (HWR.out.mono HW3.out.size))
          have hlen : h0.size + (txt p).size ≤ 140737488349000 := by omega
          have HST := Lib.hid hst
          have HOK := Lib.hid hok
          have HLEN := Lib.hid hlen
          have HGR := Lib.hid hG3
          clear hst hok hlen hsz hhs hrd ht hh0 hG3 hkl
          go_wp2_with (first | (go_at_call 6; (with_reducible refine (encode_yes p HOK.out _).mono ?_); rintro e w4 ⟨rfl, hb4⟩; have HW4 := Lib.hid (Below.trans ((Below.refl wr.heap.size wr).alloc (Nat.le_refl _) _) (hb4.mono (by simp)))) | (go_at_call 35; (with_reducible refine (Chain_walk h0 (txt p) HLEN.out _ (HGR.out.below HW4.out)).mono ?_); rintro e w5 ⟨rfl, hb5⟩) | fail)
          go_roundw
          case rel =>
            refine ⟨k + 1, by omega, by go_num, ?_, Lib.hid (Below.trans HWR.out ((Below.trans HW4.out (hb5.mono HW4.out.size)).mono HWR.out.size))⟩
            rw [HST.out]
            rfl
          case measure => simp [intOf]; omega
        · obtain rfl : k = n := by omega
          have hfull : ps.take k = ps := List.take_of_length_le (by rw [HN.out]; exact Nat.le_refl _)
          rw [hfull]
          go_wp2
          go_ret2
          exact ⟨rfl, Below.trans HW3.out (HWR.out.mono HW3.out.size)⟩
end Go.Proofs.YtooogaogbffjfaaDoor.Ext
end
