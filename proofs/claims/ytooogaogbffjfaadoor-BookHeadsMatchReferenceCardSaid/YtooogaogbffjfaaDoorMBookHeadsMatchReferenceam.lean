import Derived.Test.YtooogaogbffjfaaDoorMBookHeadsMatchReferenceah
import Derived.Test.YtooogaogbffjfaaDoorMBookHeadsMatchReferenceal
import Derived.Test.YtooogaogbffjfaaDoorMBookHeadsMatchReferenceak
/-
  Texts of this claim, one behind the other: what they prove stands above each.
-/
section
set_option linter.unusedVariables false
set_option linter.unusedSimpArgs false
namespace Go.Proofs.YtooogaogbffjfaaDoor.Ext
set_option maxRecDepth 100000
open Go.RowKit Go.Shelf Go.Proofs.YtooogaogbffjfaaDoorW.PrintWords Go.Proofs.YtooogaogbffjfaaDoorW.PrintLast Go.Proofs.YtooogaogbffjfaaDoorW.PrintMore Go.Proofs.YtooogaogbffjfaaDoor.PK Go.Proofs.YtooogaogbffjfaaDoor.Bk Go.Proofs.YtooogaogbffjfaaDoor.PB
attribute [local go_sem] Oper.semAt_some
theorem rin_walk (a b c : Int) (r : Bool) (h : decide (b ≤ a ∧ a ≤ c) = r) (w : World) : Calls Tryd.prog 50 #[.int .i64 a, .int .i64 b, .int .i64 c] w fun e w' => e = .returned (.bool r) ∧ Drawn0 w w' := h ▸ aircheckref24_in.calls a b c _ w (in_is a b c)
theorem rformed_walk (acc : Int) (p : S27) (r : Bool) (h : formedB acc p = r) (w : World) : Calls Tryd.prog 57 #[.agg #[.int .i64 p.f0, .int .i64 p.f1, .int .i64 p.f2, .int .i64 p.f3, .int .i64 p.f4, .int .i64 p.f5, .int .i64 p.f6], .int .i64 acc] w fun e w' => e = .returned (.bool r) ∧ Below w.heap.size w w' :=
  h ▸ aircheckref24_formed.calls 1 p.f0 p.f1 p.f2 p.f3 p.f4 p.f5 p.f6 acc _ w (refFormed_is 0 acc p)
theorem rv_info : (Tryd.prog.info? 4).map (fun i => (i.zero, i.size, i.bytes)) = some (some (.bool false), 1, 1) := by kernel_rfl
def Inv (ps : List S27) (n : Nat) (vb : Value) (base : Nat) (k : Nat) (bk : List Bool) (wr : World) : Prop := Kd.R Kd.bool 4 wr base (fun _ => True) vb bk ∧ bk.length = n ∧ ∀ j : Nat, j < n → bk.getD j false = (backs (ps.take k)).getD j false
theorem Inv.below {ps : List S27} {n : Nat} {vb : Value} {base k : Nat} {bk : List Bool} {w w' : World} (h : Inv ps n vb base k bk w) (hb : Below w.heap.size w w') : Inv ps n vb base k bk w' := ⟨Kd.R_below h.1 hb, h.2⟩
theorem Inv.other {ps : List S27} {n : Nat} {vb : Value} {base k : Nat} {bk : List Bool} {w : World} (h : Inv ps n vb base k bk w) (hk : k < ps.length) (h3 : (rd_T27 ps (k : Int)).f0 ≠ 3) : Inv ps n vb base (k + 1) bk w :=
  ⟨h.1, h.2.1, fun j hj => by rw [take_snoc ps k hk, backs_other _ _ h3]; exact h.2.2 j hj⟩
theorem Inv.set {ps : List S27} {n : Nat} {base k g cap : Nat} {bk : List Bool} {w : World} (h : Inv ps n (.slice (some ⟨g, 0, none⟩) n cap) base k bk w) (hk : k < ps.length) (o : Nat) (h3 : (rd_T27 ps (k : Int)).f0 = 3) (ho : (rd_T27 ps (k : Int)).f6 = (o : Int)) (ho2 : o < 200) (hn : n ≤ 200) : Inv ps n (.slice (some ⟨g, 0, none⟩) n cap) base (k + 1) (bk.set o true) (w.setCell ⟨g, o, none⟩ (.bool true)) := by
  refine ⟨?_, by rw [List.length_set]; exact h.2.1, fun j hj => ?_⟩
  · have := (Kd.R_putg h.1 (o : Int) true).1
    rw [Int.toNat_natCast] at this
    exact this
  · rw [take_snoc ps k hk, backs_set _ _ h3 o ho ho2]
    simp only [List.getD_eq_getElem?_getD, List.getElem?_set]
    have hj2 := h.2.2 j hj
    simp only [List.getD_eq_getElem?_getD] at hj2
    by_cases e : o = j
    · rw [if_pos e, if_pos e, if_pos (by rw [h.2.1]; omega), if_pos (by rw [backs_len]; omega)]
    · rw [if_neg e, if_neg e]; exact hj2
theorem vbk (w : World) (acc clo : Int) (A : Option Addr) (n c : Nat) {w2 : World} (hb : Below (w.alloc (.cells #[.int .i64 acc, .slice A n c, .int .i64 clo] 24)).heap.size (w.alloc (.cells #[.int .i64 acc, .slice A n c, .int .i64 clo] 24)) w2) : Blk w2 w.heap.size 24 [.int .i64 acc, .slice A n c, .int .i64 clo] := (Blk.newA w _ _ _ rfl).belowS hb
theorem bk_cells3 {w : World} {R : Nat} {t : TypeId} {a0 a1 a2 : Value} (h : Blk w R t [a0, a1, a2]) : w.cell? ⟨R, 0, none⟩ = some a0 ∧ w.cell? ⟨R, 1, none⟩ = some a1 ∧ w.cell? ⟨R, 2, none⟩ = some a2 := ⟨h.cell rfl, h.cell rfl, h.cell rfl⟩
set_option maxRecDepth 100000 in
set_option maxHeartbeats 4000000 in
theorem rValid_e1 (acc clo : Int) (A : Option Addr) (n c : Nat) (ps : List S27) (hl : ps.length = n) (ha : decide (2 ≤ acc ∧ acc ≤ 16) = false) (w : World) :
    Calls Tryd.prog 37 #[.agg #[.int .i64 acc, .slice A n c, .int .i64 clo]] w fun e w' => e = .returned (.bool false) ∧ Below w.heap.size w w' := by
  have HB := Lib.hid (show Below w.heap.size w (w.alloc (.cells #[.int .i64 acc, .slice A n c, .int .i64 clo] 24)) from (Below.refl _ _).alloc (Nat.le_refl _) _)
  have HW := Lib.hid (vbk w acc clo A n c (Below.refl _ _))
  have HA := Lib.hid ha
  clear ha
  obtain ⟨b0, b1, b2⟩ := bk_cells3 HW.out
  go_enter Tryd.func37, Tryd.ntmps37
  go_wp2_with (first | (go_at_call 50; (with_reducible refine (rin_walk acc 2 16 false HA.out _).mono ?_); rintro e w2 ⟨rfl, hdw2⟩) | fail)
  go_ret
  exact ⟨rfl, Below.trans HB.out (hdw2.below.mono HB.out.size)⟩
set_option maxRecDepth 100000 in
set_option maxHeartbeats 4000000 in
theorem rValid_e2 (acc clo : Int) (A : Option Addr) (n c : Nat) (ps : List S27) (hl : ps.length = n) (ha : decide (2 ≤ acc ∧ acc ≤ 16) = true) (hb : decide (0 ≤ clo ∧ clo ≤ 12) = false) (w : World) :
    Calls Tryd.prog 37 #[.agg #[.int .i64 acc, .slice A n c, .int .i64 clo]] w fun e w' => e = .returned (.bool false) ∧ Below w.heap.size w w' := by
  have HB := Lib.hid (show Below w.heap.size w (w.alloc (.cells #[.int .i64 acc, .slice A n c, .int .i64 clo] 24)) from (Below.refl _ _).alloc (Nat.le_refl _) _)
  have HW := Lib.hid (vbk w acc clo A n c (Below.refl _ _))
  have HA := Lib.hid ha
  have HC := Lib.hid hb
  clear ha hb
  obtain ⟨b0, b1, b2⟩ := bk_cells3 HW.out
  go_enter Tryd.func37, Tryd.ntmps37
  go_wp2_with (first | (go_at_call 50; (with_reducible refine (rin_walk acc 2 16 true HA.out _).mono ?_); rintro e w2 ⟨rfl, hdw2⟩; have b0 := keepB hdw2.below b0; have b1 := keepB hdw2.below b1; have b2 := keepB hdw2.below b2) | (go_at_call 50; (with_reducible refine (rin_walk clo 0 12 false HC.out _).mono ?_); rintro e w3 ⟨rfl, hdw3⟩) | fail)
  go_ret
  exact ⟨rfl, Below.trans (Below.trans HB.out (hdw2.below.mono HB.out.size)) (hdw3.below.mono (Below.trans HB.out (hdw2.below.mono HB.out.size)).size)⟩
set_option maxRecDepth 100000 in
set_option maxHeartbeats 4000000 in
theorem rValid_e3 (acc clo : Int) (A : Option Addr) (n c : Nat) (ps : List S27) (hl : ps.length = n) (ha : decide (2 ≤ acc ∧ acc ≤ 16) = true) (hb : decide (0 ≤ clo ∧ clo ≤ 12) = true) (h200 : 200 < n) (w : World) :
    Calls Tryd.prog 37 #[.agg #[.int .i64 acc, .slice A n c, .int .i64 clo]] w fun e w' => e = .returned (.bool false) ∧ Below w.heap.size w w' := by
  have HB := Lib.hid (show Below w.heap.size w (w.alloc (.cells #[.int .i64 acc, .slice A n c, .int .i64 clo] 24)) from (Below.refl _ _).alloc (Nat.le_refl _) _)
  have HW := Lib.hid (vbk w acc clo A n c (Below.refl _ _))
  have HA := Lib.hid ha
  have HC := Lib.hid hb
  have hd : decide ((200 : Int) < (n : Int)) = true := decide_eq_true (by omega)
  clear ha hb
  obtain ⟨b0, b1, b2⟩ := bk_cells3 HW.out
  go_enter Tryd.func37, Tryd.ntmps37
  go_wp2_with (first | (go_at_call 50; (with_reducible refine (rin_walk acc 2 16 true HA.out _).mono ?_); rintro e w2 ⟨rfl, hdw2⟩; have b0 := keepB hdw2.below b0; have b1 := keepB hdw2.below b1; have b2 := keepB hdw2.below b2) | (go_at_call 50; (with_reducible refine (rin_walk clo 0 12 true HC.out _).mono ?_); rintro e w3 ⟨rfl, hdw3⟩; have b0 := keepB hdw3.below b0; have b1 := keepB hdw3.below b1; have b2 := keepB hdw3.below b2) | fail)
  go_ret
  exact ⟨rfl, Below.trans (Below.trans HB.out (hdw2.below.mono HB.out.size)) (hdw3.below.mono (Below.trans HB.out (hdw2.below.mono HB.out.size)).size)⟩
theorem v_cells (wr : World) (p : S27) (g : Nat) (acc clo : Int) (A : Option Addr) (n c : Nat) (hB : Blk wr g 24 [.int .i64 acc, .slice A n c, .int .i64 clo]) {w1 : World} (h1 : wr.alloc (.cells #[.int .i64 p.f0, .int .i64 p.f1, .int .i64 p.f2, .int .i64 p.f3, .int .i64 p.f4, .int .i64 p.f5, .int .i64 p.f6] 27) = w1) :
    (w1.drew.cell? ⟨g, 0, none⟩ = some (.int .i64 acc) ∧ w1.drew.cell? ⟨g, 1, none⟩ = some (.slice A n c) ∧ w1.drew.cell? ⟨wr.heap.size, 0, none⟩ = some (.int .i64 p.f0) ∧ w1.drew.cell? ⟨wr.heap.size, 1, none⟩ = some (.int .i64 p.f1) ∧ w1.drew.cell? ⟨wr.heap.size, 2, none⟩ = some (.int .i64 p.f2) ∧ w1.drew.cell? ⟨wr.heap.size, 3, none⟩ = some (.int .i64 p.f3) ∧ w1.drew.cell? ⟨wr.heap.size, 4, none⟩ = some (.int .i64 p.f4) ∧ w1.drew.cell? ⟨wr.heap.size, 5, none⟩ = some (.int .i64 p.f5) ∧ w1.drew.cell? ⟨wr.heap.size, 6, none⟩ = some (.int .i64 p.f6)) ∧ Below wr.heap.size wr w1.drew := by
  subst h1
  have hb := hB.alloc (.cells #[.int .i64 p.f0, .int .i64 p.f1, .int .i64 p.f2, .int .i64 p.f3, .int .i64 p.f4, .int .i64 p.f5, .int .i64 p.f6] 27)
  obtain ⟨z0, z1, z2, z3, z4, z5, z6⟩ := pc_cells (Blk.new wr 27 (pcells p))
  exact ⟨⟨hb.cell rfl, hb.cell rfl, z0, z1, z2, z3, z4, z5, z6⟩, below_drew1 ((Below.refl _ _).alloc (Nat.le_refl _) _)⟩
set_option maxRecDepth 100000 in
set_option maxHeartbeats 8000000 in
theorem rValid_main (acc clo : Int) (A : Option Addr) (n c : Nat) (ps : List S27) (hl : ps.length = n) (ha : decide (2 ≤ acc ∧ acc ≤ 16) = true) (hb : decide (0 ≤ clo ∧ clo ≤ 12) = true) (h200 : n ≤ 200) (r : Bool) (hr : okAll acc [] ps = r) (w : World) (hC : Kd.C k27 w A n ps) :
    Calls Tryd.prog 37 #[.agg #[.int .i64 acc, .slice A n c, .int .i64 clo]] w fun e w' => e = .returned (.bool r) ∧ Below w.heap.size w w' := by
  have HB := Lib.hid (show Below w.heap.size w (w.alloc (.cells #[.int .i64 acc, .slice A n c, .int .i64 clo] 24)) from (Below.refl _ _).alloc (Nat.le_refl _) _)
  have HW := Lib.hid (vbk w acc clo A n c (Below.refl _ _))
  have HA := Lib.hid ha
  have HC := Lib.hid hb
  have HL := Lib.hid hl
  have HPC := Lib.hid hC
  have HR := Lib.hid hr
  have hd : decide ((200 : Int) < (n : Int)) = false := decide_eq_false (by omega)
  clear ha hb hl hC hr
  obtain ⟨b0, b1, b2⟩ := bk_cells3 HW.out
  go_enter Tryd.func37, Tryd.ntmps37
  go_upto_region 3 with (first | (go_at_call 50; (with_reducible refine (rin_walk acc 2 16 true HA.out _).mono ?_); rintro e w2 ⟨rfl, hdw2⟩; have b0 := keepB hdw2.below b0; have b1 := keepB hdw2.below b1; have b2 := keepB hdw2.below b2) | (go_at_call 50; (with_reducible refine (rin_walk clo 0 12 true HC.out _).mono ?_); rintro e w3 ⟨rfl, hdw3⟩; have b0 := keepB hdw3.below b0; have b1 := keepB hdw3.below b1; have b2 := keepB hdw3.below b2) | fail)
  have HB3 := Lib.hid (show Below w.heap.size w w3 from Below.trans (Below.trans HB.out (hdw2.below.mono HB.out.size)) (hdw3.below.mono (Below.trans HB.out (hdw2.below.mono HB.out.size)).size))
  have HW3 := Lib.hid ((HW.out.belowS hdw2.below).belowS hdw3.below)
  clear hdw2 hdw3 HB HW HA HC
  go_upto_region 4 with (first | ((with_reducible refine gate_dst (N := 26) rfl ?_); refine Kd.R_make Kd.bool _ 4 rfl (N := 26) rfl 104 _ _ rfl (n : Int) rfl rfl Tryd.underlying104 (.bool false) 1 rv_info rfl (by decide) (by omega) false (ok := fun _ => True) (okp := fun _ => True) rfl (fun _ hk => hk) trivial (by omega) (by simp only [Int.toNat_natCast]; omega) (Below.refl _ _) (Nat.le_refl _) ?_; intro vb w4 hvb hb4 hg4 hnew4; clear hg4 hnew4) | fail)
  have HI4 := Lib.hid (show Inv ps n vb (w.heap.size + 1) 0 (List.replicate n false) w4 from ⟨by have h := Kd.R_lower hvb (show w.heap.size + 1 ≤ w3.heap.size from by have := HB3.out.size; have := HW3.out.lt; omega); rwa [Int.toNat_natCast] at h, List.length_replicate .., fun j hj => by rw [List.take_zero, backs_nil]; simp only [List.getD_eq_getElem?_getD, List.getElem?_replicate]; rw [if_pos hj, if_pos (by omega)]⟩)
  have HB4 := Lib.hid (Below.trans HB3.out (hb4.mono HB3.out.size))
  have HW4 := Lib.hid (HW3.out.belowS hb4)
  clear HB3 HW3 hvb hb4 b0 b1 b2
  go_wp2
  go_loopw [4] (fun i wr => ∃ (k : Nat) (bk : List Bool), k ≤ n ∧ i = .int .i64 (k : Int) ∧ Hid (Blk wr w.heap.size 24 [.int .i64 acc, .slice A n c, .int .i64 clo]) ∧ Hid (Inv ps n vb (w.heap.size + 1) k bk wr) ∧ Hid (Below w.heap.size w wr) ∧ Hid (okAll acc (ps.take k) (ps.drop k) = r)) (fun i wr => n - (intOf i).toNat)
  case atStart => exact ⟨0, _, by omega, rfl, HW4, HI4, HB4, HR⟩
  case round =>
    obtain ⟨k, bk, hk, rfl, HW, HI, HB, HOK⟩ := hrel
    clear HW4 HI4 HB4 HR
    obtain ⟨b0, b1, b2⟩ := bk_cells3 HW.out
    by_cases hlt : k < n
    · have hki : (k : Int) < (n : Int) := by omega
      have hcr := Kd.C_below HPC.out HB.out
      have hkl : k < ps.length := by rw [HL.out]; exact hlt
      have hst := okAll_step acc ps k hkl
      rw [Bk.next_is acc ps k _ (by rw [HL.out]; exact h200) hkl, HOK.out] at hst
      have HST := Lib.hid hst
      have HKL := Lib.hid hkl
      obtain ⟨ad, rfl, x0, x1, x2, x3, x4, x5, x6⟩ := at_T27 hcr (k : Int) (by omega) hki
      rw [Int.toNat_natCast] at x0 x1 x2 x3 x4 x5 x6
      have HX := Lib.hid hcr
      clear hst hkl hcr
      have HP := Lib.hid (rfl : rd_T27 ps (k : Int) = rd_T27 ps (k : Int))
      generalize hp : rd_T27 ps (k : Int) = p at x0 x1 x2 x3 x4 x5 x6
      go_upto_region 8 with (fail)
      clear x0 x1 x2 x3 x4 x5 x6 b0 b1 b2
      change Code.wp _ _ _ _ (wr.alloc (.cells #[.int .i64 p.f0, .int .i64 p.f1, .int .i64 p.f2, .int .i64 p.f3, .int .i64 p.f4, .int .i64 p.f5, .int .i64 p.f6] 27))
      generalize h1 : wr.alloc (.cells #[.int .i64 p.f0, .int .i64 p.f1, .int .i64 p.f2, .int .i64 p.f3, .int .i64 p.f4, .int .i64 p.f5, .int .i64 p.f6] 27) = w1 at *
      obtain ⟨hS, hb1⟩ := v_cells wr p w.heap.size acc clo _ n c HW.out h1
      clear h1
      have hst := HST.out
      rw [hp] at hst
      have HST := Lib.hid hst
      have HP := Lib.hid hp
      clear hst hp
      cases hf : formedB acc p with
      | false =>
        have HF := Lib.hid hf
        clear hf hk hlt hki hd h200
        refine start_ (n := 21) (S := fun w' => w'.cell? ⟨w.heap.size, 0, none⟩ = some (.int .i64 acc) ∧ w'.cell? ⟨w.heap.size, 1, none⟩ = some (.slice (some ad) n c) ∧ w'.cell? ⟨wr.heap.size, 0, none⟩ = some (.int .i64 p.f0) ∧ w'.cell? ⟨wr.heap.size, 1, none⟩ = some (.int .i64 p.f1) ∧ w'.cell? ⟨wr.heap.size, 2, none⟩ = some (.int .i64 p.f2) ∧ w'.cell? ⟨wr.heap.size, 3, none⟩ = some (.int .i64 p.f3) ∧ w'.cell? ⟨wr.heap.size, 4, none⟩ = some (.int .i64 p.f4) ∧ w'.cell? ⟨wr.heap.size, 5, none⟩ = some (.int .i64 p.f5) ∧ w'.cell? ⟨wr.heap.size, 6, none⟩ = some (.int .i64 p.f6)) (ds := []) (bb 21 0) (by kernel_rfl) rfl rfl hS (fun hHeld => ?_)
        generalize w1.drew = wd at *
        refine take_ (i := 0) (N := (some 39)) (v := ?_) (a' := ?_) (bb 21 1) rfl rfl (by kernel_rfl) (fun _ _ _ h => h) (Or.inl ⟨by rfl, ?_⟩) hHeld ?_ ?_
        rotate_left; (rintro w' ⟨s0, s1, s2, s3, s4, s5, s6, s7, s8⟩; go_simp; with_reducible rfl); rotate_left; (simp only [Act.put, z1, z2, z3, i64_w, i32_w]; rfl)
        refine pure_ (i := 1) (N := (some 40)) (v := ?_) (a' := ?_) (bb 21 3) rfl rfl (by kernel_rfl) (fun _ _ _ h => h) (Or.inl ⟨by rfl, ?_⟩) ?_ ?_
        rotate_left; (intro w'; go_simp; with_reducible rfl); rotate_left; (simp only [Act.put, z1, z2, z3, i64_w, i32_w]; rfl)
        refine take_ (i := 2) (N := (some 41)) (v := ?_) (a' := ?_) (bb 21 7) rfl rfl (by kernel_rfl) (fun _ _ _ h => h) (Or.inl ⟨by rfl, ?_⟩) hHeld ?_ ?_
        rotate_left; (rintro w' ⟨s0, s1, s2, s3, s4, s5, s6, s7, s8⟩; go_simp; with_reducible rfl); rotate_left; (simp only [Act.put, z1, z2, z3, i64_w, i32_w]; rfl)
        refine one_ (i := 3) (N := (some 42)) (bb 21 15) rfl rfl (by kernel_rfl) (by decide) (fun K hK => ?_)
        refine goes_ Tryd.func57 (by kernel_rfl) rfl #[.agg #[.int .i64 p.f0, .int .i64 p.f1, .int .i64 p.f2, .int .i64 p.f3, .int .i64 p.f4, .int .i64 p.f5, .int .i64 p.f6], .int .i64 acc] (by rfl) rfl rfl (by (try simp only [List.map_toArray, List.map_cons, List.map_nil]); first | done | rfl) ?_
        refine (rformed_walk acc p false HF.out _).mono ?_
        rintro e w2 ⟨rfl, hbc⟩
        refine ⟨_, rfl, ?_⟩
        refine hK.out _ _ ⟨keepB hbc hHeld.1, keepB hbc hHeld.2.1, keepB hbc hHeld.2.2.1, keepB hbc hHeld.2.2.2.1, keepB hbc hHeld.2.2.2.2.1, keepB hbc hHeld.2.2.2.2.2.1, keepB hbc hHeld.2.2.2.2.2.2.1, keepB hbc hHeld.2.2.2.2.2.2.2.1, keepB hbc hHeld.2.2.2.2.2.2.2.2⟩ (fun hHeld => ?_)
        clear hK K
        refine norm_ (a' := ?_) ?_ ?_
        rotate_left
        · show Act.put _ (some 42) _ = _
          simp only [Act.put, z1, z2, z3, i64_w, i32_w]
          rfl
        refine pure_ (i := 4) (N := (some 43)) (v := ?_) (a' := ?_) (bb 21 31) rfl rfl (by kernel_rfl) (fun _ _ _ h => h) (Or.inl ⟨by rfl, ?_⟩) ?_ ?_
        rotate_left; (intro w'; go_simp; with_reducible rfl); rotate_left; (simp only [Act.put, z1, z2, z3, i64_w, i32_w]; rfl)
        refine pure_ (i := 5) (N := (some 44)) (v := ?_) (a' := ?_) (bb 21 63) rfl rfl (by kernel_rfl) (fun _ _ _ h => h) (Or.inl ⟨by rfl, ?_⟩) ?_ ?_
        rotate_left; (intro w'; go_simp; with_reducible rfl); rotate_left; (simp only [Act.put, z1, z2, z3, i64_w, i32_w]; rfl)
        refine pure_ (i := 6) (N := (some 45)) (v := undef) (a' := ?_) (bb 21 127) rfl rfl (by kernel_rfl) (fun _ _ _ h => h) (Or.inr ⟨by rfl, rfl⟩) ?_ ?_
        rotate_left; (simp only [Act.put, z1, z2, z3, i64_w, i32_w]; rfl)
        refine pure_ (i := 7) (N := (some 46)) (v := undef) (a' := ?_) (bb 21 255) rfl rfl (by kernel_rfl) (fun _ _ _ h => h) (Or.inr ⟨by rfl, rfl⟩) ?_ ?_
        rotate_left; (simp only [Act.put, z1, z2, z3, i64_w, i32_w]; rfl)
        refine pure_ (i := 8) (N := (some 47)) (v := undef) (a' := ?_) (bb 21 511) rfl rfl (by kernel_rfl) (fun _ _ _ h => h) (Or.inr ⟨by rfl, rfl⟩) ?_ ?_
        rotate_left; (simp only [Act.put, z1, z2, z3, i64_w, i32_w]; rfl)
        refine pure_ (i := 9) (N := (some 48)) (v := undef) (a' := ?_) (bb 21 1023) rfl rfl (by kernel_rfl) (fun _ _ _ h => h) (Or.inr ⟨by rfl, rfl⟩) ?_ ?_
        rotate_left; (simp only [Act.put, z1, z2, z3, i64_w, i32_w]; rfl)
        refine pure_ (i := 10) (N := (some 49)) (v := undef) (a' := ?_) (bb 21 2047) rfl rfl (by kernel_rfl) (fun _ _ _ h => h) (Or.inr ⟨by rfl, rfl⟩) ?_ ?_
        rotate_left; (simp only [Act.put, z1, z2, z3, i64_w, i32_w]; rfl)
        refine pure_ (i := 11) (N := (some 50)) (v := undef) (a' := ?_) (bb 21 4095) rfl rfl (by kernel_rfl) (fun _ _ _ h => h) (Or.inr ⟨by rfl, rfl⟩) ?_ ?_
        rotate_left; (simp only [Act.put, z1, z2, z3, i64_w, i32_w]; rfl)
        refine pure_ (i := 12) (N := (some 51)) (v := undef) (a' := ?_) (bb 21 8191) rfl rfl (by kernel_rfl) (fun _ _ _ h => h) (Or.inr ⟨by rfl, rfl⟩) ?_ ?_
        rotate_left; (simp only [Act.put, z1, z2, z3, i64_w, i32_w]; rfl)
        refine pure_ (i := 13) (N := (some 52)) (v := undef) (a' := ?_) (bb 21 16383) rfl rfl (by kernel_rfl) (fun _ _ _ h => h) (Or.inr ⟨by rfl, rfl⟩) ?_ ?_
        rotate_left; (simp only [Act.put, z1, z2, z3, i64_w, i32_w]; rfl)
        refine pure_ (i := 14) (N := (some 53)) (v := undef) (a' := ?_) (bb 21 32767) rfl rfl (by kernel_rfl) (fun _ _ _ h => h) (Or.inr ⟨by rfl, rfl⟩) ?_ ?_
        rotate_left; (simp only [Act.put, z1, z2, z3, i64_w, i32_w]; rfl)
        refine pure_ (i := 15) (N := (some 54)) (v := undef) (a' := ?_) (bb 21 65535) rfl rfl (by kernel_rfl) (fun _ _ _ h => h) (Or.inr ⟨by rfl, rfl⟩) ?_ ?_
        rotate_left; (simp only [Act.put, z1, z2, z3, i64_w, i32_w]; rfl)
        refine pure_ (i := 16) (N := (some 55)) (v := undef) (a' := ?_) (bb 21 131071) rfl rfl (by kernel_rfl) (fun _ _ _ h => h) (Or.inr ⟨by rfl, rfl⟩) ?_ ?_
        rotate_left; (simp only [Act.put, z1, z2, z3, i64_w, i32_w]; rfl)
        refine pure_ (i := 17) (N := (some 56)) (v := undef) (a' := ?_) (bb 21 262143) rfl rfl (by kernel_rfl) (fun _ _ _ h => h) (Or.inr ⟨by rfl, rfl⟩) ?_ ?_
        rotate_left; (simp only [Act.put, z1, z2, z3, i64_w, i32_w]; rfl)
        refine pure_ (i := 18) (N := (some 57)) (v := undef) (a' := ?_) (bb 21 524287) rfl rfl (by kernel_rfl) (fun _ _ _ h => h) (Or.inr ⟨by rfl, rfl⟩) ?_ ?_
        rotate_left; (simp only [Act.put, z1, z2, z3, i64_w, i32_w]; rfl)
        refine pure_ (i := 19) (N := (some 58)) (v := undef) (a' := ?_) (bb 21 1048575) rfl rfl (by kernel_rfl) (fun _ _ _ h => h) (Or.inr ⟨by rfl, rfl⟩) ?_ ?_
        rotate_left; (simp only [Act.put, z1, z2, z3, i64_w, i32_w]; rfl)
        refine pure_ (i := 20) (N := (some 59)) (v := ?_) (a' := ?_) (bb 21 2097151) rfl rfl (by kernel_rfl) (fun _ _ _ h => h) (Or.inl ⟨by rfl, ?_⟩) ?_ ?_
        rotate_left; (intro w'; go_simp; with_reducible rfl); rotate_left; (simp only [Act.put, z1, z2, z3, i64_w, i32_w]; rfl)
        refine done_ (by kernel_rfl) ?_
        have hb2 : Below wr.heap.size wr w2 := Below.trans hb1 (hbc.mono hb1.size)
        clear hS hb1 hbc
        go_wp2
        go_ret
        exact ⟨by rw [HST.out, HF.out, Bool.false_and, Bool.false_and]; rfl, Below.trans HB.out (hb2.mono HB.out.size)⟩
      | true =>
        have HF := Lib.hid hf
        have HFO := Lib.hid (formed_of hf)
        clear hf
        by_cases h0 : k = 0
        · have hk0 : decide ((0 : Int) < (k : Int)) = false := decide_eq_false (by omega)
          have hk1 : decide (0 < k) = false := decide_eq_false (by omega)
          have H0 := Lib.hid h0
          clear h0
          refine start_ (n := 21) (S := fun w' => w'.cell? ⟨w.heap.size, 0, none⟩ = some (.int .i64 acc) ∧ w'.cell? ⟨w.heap.size, 1, none⟩ = some (.slice (some ad) n c) ∧ w'.cell? ⟨wr.heap.size, 0, none⟩ = some (.int .i64 p.f0) ∧ w'.cell? ⟨wr.heap.size, 1, none⟩ = some (.int .i64 p.f1) ∧ w'.cell? ⟨wr.heap.size, 2, none⟩ = some (.int .i64 p.f2) ∧ w'.cell? ⟨wr.heap.size, 3, none⟩ = some (.int .i64 p.f3) ∧ w'.cell? ⟨wr.heap.size, 4, none⟩ = some (.int .i64 p.f4) ∧ w'.cell? ⟨wr.heap.size, 5, none⟩ = some (.int .i64 p.f5) ∧ w'.cell? ⟨wr.heap.size, 6, none⟩ = some (.int .i64 p.f6)) (ds := []) (bb 21 0) (by kernel_rfl) rfl rfl hS (fun hHeld => ?_)
          generalize w1.drew = wd at *
          refine take_ (i := 0) (N := (some 39)) (v := ?_) (a' := ?_) (bb 21 1) rfl rfl (by kernel_rfl) (fun _ _ _ h => h) (Or.inl ⟨by rfl, ?_⟩) hHeld ?_ ?_
          rotate_left; (rintro w' ⟨s0, s1, s2, s3, s4, s5, s6, s7, s8⟩; go_simp; with_reducible rfl); rotate_left; (simp only [Act.put, z1, z2, z3, i64_w, i32_w]; rfl)
          refine pure_ (i := 1) (N := (some 40)) (v := ?_) (a' := ?_) (bb 21 3) rfl rfl (by kernel_rfl) (fun _ _ _ h => h) (Or.inl ⟨by rfl, ?_⟩) ?_ ?_
          rotate_left; (intro w'; go_simp; with_reducible rfl); rotate_left; (simp only [Act.put, z1, z2, z3, i64_w, i32_w]; rfl)
          refine take_ (i := 2) (N := (some 41)) (v := ?_) (a' := ?_) (bb 21 7) rfl rfl (by kernel_rfl) (fun _ _ _ h => h) (Or.inl ⟨by rfl, ?_⟩) hHeld ?_ ?_
          rotate_left; (rintro w' ⟨s0, s1, s2, s3, s4, s5, s6, s7, s8⟩; go_simp; with_reducible rfl); rotate_left; (simp only [Act.put, z1, z2, z3, i64_w, i32_w]; rfl)
          refine one_ (i := 3) (N := (some 42)) (bb 21 15) rfl rfl (by kernel_rfl) (by decide) (fun K hK => ?_)
          refine goes_ Tryd.func57 (by kernel_rfl) rfl #[.agg #[.int .i64 p.f0, .int .i64 p.f1, .int .i64 p.f2, .int .i64 p.f3, .int .i64 p.f4, .int .i64 p.f5, .int .i64 p.f6], .int .i64 acc] (by rfl) rfl rfl (by (try simp only [List.map_toArray, List.map_cons, List.map_nil]); first | done | rfl) ?_
          refine (rformed_walk acc p true HF.out _).mono ?_
          rintro e w2 ⟨rfl, hbc⟩
          refine ⟨_, rfl, ?_⟩
          refine hK.out _ _ ⟨keepB hbc hHeld.1, keepB hbc hHeld.2.1, keepB hbc hHeld.2.2.1, keepB hbc hHeld.2.2.2.1, keepB hbc hHeld.2.2.2.2.1, keepB hbc hHeld.2.2.2.2.2.1, keepB hbc hHeld.2.2.2.2.2.2.1, keepB hbc hHeld.2.2.2.2.2.2.2.1, keepB hbc hHeld.2.2.2.2.2.2.2.2⟩ (fun hHeld => ?_)
          clear hK K
          refine norm_ (a' := ?_) ?_ ?_
          rotate_left
          · show Act.put _ (some 42) _ = _
            simp only [Act.put, z1, z2, z3, i64_w, i32_w]
            rfl
          refine pure_ (i := 4) (N := (some 43)) (v := ?_) (a' := ?_) (bb 21 31) rfl rfl (by kernel_rfl) (fun _ _ _ h => h) (Or.inl ⟨by rfl, ?_⟩) ?_ ?_
          rotate_left; (intro w'; go_simp; with_reducible rfl); rotate_left; (simp only [Act.put, z1, z2, z3, i64_w, i32_w]; rfl)
          refine pure_ (i := 5) (N := (some 44)) (v := ?_) (a' := ?_) (bb 21 63) rfl rfl (by kernel_rfl) (fun _ _ _ h => h) (Or.inl ⟨by rfl, ?_⟩) ?_ ?_
          rotate_left; (intro w'; go_simp; with_reducible rfl); rotate_left; (simp only [Act.put, z1, z2, z3, i64_w, i32_w]; rfl)
          refine pure_ (i := 6) (N := (some 45)) (v := ?_) (a' := ?_) (bb 21 127) rfl rfl (by kernel_rfl) (fun _ _ _ h => h) (Or.inl ⟨by rfl, ?_⟩) ?_ ?_
          rotate_left; (intro w'; go_simp; with_reducible rfl); rotate_left; (simp only [Act.put, z1, z2, z3, i64_w, i32_w]; rfl)
          refine pure_ (i := 7) (N := (some 46)) (v := ?_) (a' := ?_) (bb 21 255) rfl rfl (by kernel_rfl) (fun _ _ _ h => h) (Or.inl ⟨by rfl, ?_⟩) ?_ ?_
          rotate_left; (intro w'; go_simp; with_reducible rfl); rotate_left; (simp only [Act.put, z1, z2, z3, i64_w, i32_w]; rfl)
          refine pure_ (i := 8) (N := (some 47)) (v := ?_) (a' := ?_) (bb 21 511) rfl rfl (by kernel_rfl) (fun _ _ _ h => h) (Or.inl ⟨by rfl, ?_⟩) ?_ ?_
          rotate_left; (intro w'; go_simp; with_reducible rfl); rotate_left; (simp only [Act.put, z1, z2, z3, i64_w, i32_w]; rfl)
          refine pure_ (i := 9) (N := (some 48)) (v := undef) (a' := ?_) (bb 21 1023) rfl rfl (by kernel_rfl) (fun _ _ _ h => h) (Or.inr ⟨by rfl, rfl⟩) ?_ ?_
          rotate_left; (simp only [Act.put, z1, z2, z3, i64_w, i32_w]; rfl)
          refine pure_ (i := 10) (N := (some 49)) (v := undef) (a' := ?_) (bb 21 2047) rfl rfl (by kernel_rfl) (fun _ _ _ h => h) (Or.inr ⟨by rfl, rfl⟩) ?_ ?_
          rotate_left; (simp only [Act.put, z1, z2, z3, i64_w, i32_w]; rfl)
          refine pure_ (i := 11) (N := (some 50)) (v := undef) (a' := ?_) (bb 21 4095) rfl rfl (by kernel_rfl) (fun _ _ _ h => h) (Or.inr ⟨by rfl, rfl⟩) ?_ ?_
          rotate_left; (simp only [Act.put, z1, z2, z3, i64_w, i32_w]; rfl)
          refine pure_ (i := 12) (N := (some 51)) (v := undef) (a' := ?_) (bb 21 8191) rfl rfl (by kernel_rfl) (fun _ _ _ h => h) (Or.inr ⟨by rfl, rfl⟩) ?_ ?_
          rotate_left; (simp only [Act.put, z1, z2, z3, i64_w, i32_w]; rfl)
          refine pure_ (i := 13) (N := (some 52)) (v := undef) (a' := ?_) (bb 21 16383) rfl rfl (by kernel_rfl) (fun _ _ _ h => h) (Or.inr ⟨by rfl, rfl⟩) ?_ ?_
          rotate_left; (simp only [Act.put, z1, z2, z3, i64_w, i32_w]; rfl)
          refine pure_ (i := 14) (N := (some 53)) (v := undef) (a' := ?_) (bb 21 32767) rfl rfl (by kernel_rfl) (fun _ _ _ h => h) (Or.inr ⟨by rfl, rfl⟩) ?_ ?_
          rotate_left; (simp only [Act.put, z1, z2, z3, i64_w, i32_w]; rfl)
          refine pure_ (i := 15) (N := (some 54)) (v := undef) (a' := ?_) (bb 21 65535) rfl rfl (by kernel_rfl) (fun _ _ _ h => h) (Or.inr ⟨by rfl, rfl⟩) ?_ ?_
          rotate_left; (simp only [Act.put, z1, z2, z3, i64_w, i32_w]; rfl)
          refine pure_ (i := 16) (N := (some 55)) (v := undef) (a' := ?_) (bb 21 131071) rfl rfl (by kernel_rfl) (fun _ _ _ h => h) (Or.inr ⟨by rfl, rfl⟩) ?_ ?_
          rotate_left; (simp only [Act.put, z1, z2, z3, i64_w, i32_w]; rfl)
          refine pure_ (i := 17) (N := (some 56)) (v := undef) (a' := ?_) (bb 21 262143) rfl rfl (by kernel_rfl) (fun _ _ _ h => h) (Or.inr ⟨by rfl, rfl⟩) ?_ ?_
          rotate_left; (simp only [Act.put, z1, z2, z3, i64_w, i32_w]; rfl)
          refine pure_ (i := 18) (N := (some 57)) (v := undef) (a' := ?_) (bb 21 524287) rfl rfl (by kernel_rfl) (fun _ _ _ h => h) (Or.inr ⟨by rfl, rfl⟩) ?_ ?_
          rotate_left; (simp only [Act.put, z1, z2, z3, i64_w, i32_w]; rfl)
          refine pure_ (i := 19) (N := (some 58)) (v := ?_) (a' := ?_) (bb 21 1048575) rfl rfl (by kernel_rfl) (fun _ _ _ h => h) (Or.inl ⟨by rfl, ?_⟩) ?_ ?_
          rotate_left; (intro w'; go_simp; with_reducible rfl); rotate_left; (simp only [Act.put, z1, z2, z3, i64_w, i32_w]; rfl)
          refine pure_ (i := 20) (N := (some 59)) (v := ?_) (a' := ?_) (bb 21 2097151) rfl rfl (by kernel_rfl) (fun _ _ _ h => h) (Or.inl ⟨by rfl, ?_⟩) ?_ ?_
          rotate_left; (intro w'; go_simp; with_reducible rfl); rotate_left; (simp only [Act.put, z1, z2, z3, i64_w, i32_w]; rfl)
          refine done_ (by kernel_rfl) ?_
          have hb2 : Below wr.heap.size wr w2 := Below.trans hb1 (hbc.mono hb1.size)
          clear hS hb1 hbc
          have HDAY := Lib.hid (show dayR ps k p = false by unfold dayR; rw [if_pos H0.out])
          obtain ⟨s0, s1, z0, z1, z2, z3, z4, z5, z6⟩ := hHeld
          rcases HFO.out with ⟨hk12, hm1⟩ | ⟨h3, h6a, h6b⟩
          · have H3 := Lib.hid (show p.f0 ≠ 3 by omega)
            rcases hk12 with h1 | h1
            · have e1 : (p.f0 == 1) = true := by simp [h1]
              clear h1 hm1
              go_wp2
              go_roundw
              case rel => exact ⟨k + 1, bk, by omega, by go_num, Lib.hid (HW.out.belowS hb2), Lib.hid ((HI.out.below hb2).other HKL.out (by rw [HP.out]; exact H3.out)), Lib.hid (Below.trans HB.out (hb2.mono HB.out.size)), Lib.hid (by have h := HST.out; rw [HF.out, HDAY.out, decide_eq_true H3.out] at h; simpa using h.symm)⟩
              case measure => simp [intOf]; omega
            · have e1 : (p.f0 == 1) = false := by simp [h1]
              have e2 : (p.f0 == 2) = true := by simp [h1]
              clear h1 hm1
              go_wp2
              go_roundw
              case rel => exact ⟨k + 1, bk, by omega, by go_num, Lib.hid (HW.out.belowS hb2), Lib.hid ((HI.out.below hb2).other HKL.out (by rw [HP.out]; exact H3.out)), Lib.hid (Below.trans HB.out (hb2.mono HB.out.size)), Lib.hid (by have h := HST.out; rw [HF.out, HDAY.out, decide_eq_true H3.out] at h; simpa using h.symm)⟩
              case measure => simp [intOf]; omega
          · have e1 : (p.f0 == 1) = false := by simp [h3]
            have e2 : (p.f0 == 2) = false := by simp [h3]
            have H3 := Lib.hid h3
            have h6 : decide ((k : Int) ≤ p.f6) = true := decide_eq_true (by have := H0.out; omega)
            have H6 := Lib.hid (show ¬ p.f6 < (k : Int) by have := H0.out; omega)
            clear h3 h6a h6b
            go_wp2
            go_ret
            exact ⟨by have h := HST.out; rw [HF.out, HDAY.out, decide_eq_false (show ¬ p.f0 ≠ 3 from fun h => h H3.out), decide_eq_false (show ¬ p.f6 < (k : Int) by have := H6.out; omega)] at h; rw [show r = false by simpa using h]; rfl, Below.trans HB.out (hb2.mono HB.out.size)⟩
        · obtain ⟨m, hm⟩ : ∃ m, k = m + 1 := ⟨k - 1, by omega⟩
          have hk0 : decide ((0 : Int) < (k : Int)) = true := decide_eq_true (by omega)
          have hk1 : decide (0 < k) = true := decide_eq_true (by omega)
          have hi0 : (0 : Int) ≤ (m : Int) := by omega
          have hi1 : (m : Int) < (n : Int) := by omega
          have hw : IntKind.i64.wrap ((k : Int) - 1) = (m : Int) := by rw [IntWalk.i64_in _ (by omega)]; omega
          obtain ⟨ad2, ead, y0, y1, y2, y3, y4, y5, y6⟩ := at_T27 HX.out (m : Int) hi0 hi1
          obtain rfl := Option.some.inj ead
          rw [Int.toNat_natCast] at y1
          have HQ := Lib.hid (show rd_T27 ps ((k - 1 : Nat) : Int) = rd_T27 ps (m : Int) by rw [show k - 1 = m by omega])
          generalize rd_T27 ps (m : Int) = q at *
          have hS := hS
          have hS : w1.drew.cell? ⟨w.heap.size, 0, none⟩ = some (.int .i64 acc) ∧ w1.drew.cell? ⟨w.heap.size, 1, none⟩ = some (.slice (some ad) n c) ∧ w1.drew.cell? ⟨wr.heap.size, 0, none⟩ = some (.int .i64 p.f0) ∧ w1.drew.cell? ⟨wr.heap.size, 1, none⟩ = some (.int .i64 p.f1) ∧ w1.drew.cell? ⟨wr.heap.size, 2, none⟩ = some (.int .i64 p.f2) ∧ w1.drew.cell? ⟨wr.heap.size, 3, none⟩ = some (.int .i64 p.f3) ∧ w1.drew.cell? ⟨wr.heap.size, 4, none⟩ = some (.int .i64 p.f4) ∧ w1.drew.cell? ⟨wr.heap.size, 5, none⟩ = some (.int .i64 p.f5) ∧ w1.drew.cell? ⟨wr.heap.size, 6, none⟩ = some (.int .i64 p.f6) ∧ w1.drew.cell? ⟨(ad.add (m * 7)).block, (ad.add (m * 7)).off + 1, none⟩ = some (.int .i64 q.f1) := ⟨hS.1, hS.2.1, hS.2.2.1, hS.2.2.2.1, hS.2.2.2.2.1, hS.2.2.2.2.2.1, hS.2.2.2.2.2.2.1, hS.2.2.2.2.2.2.2.1, hS.2.2.2.2.2.2.2.2, keepB hb1 y1⟩
          have H0 := Lib.hid h0
          clear h0 y0 y1 y2 y3 y4 y5 y6 ead hm
          have HKK := Lib.hid (And.intro hk hlt)
          cases hday : decide (p.f1 < q.f1) with
          | true =>
            have HDAY := Lib.hid (show dayR ps k p = true by unfold dayR; rw [if_neg H0.out, HQ.out]; exact hday)
            refine start_ (n := 21) (S := fun w' => w'.cell? ⟨w.heap.size, 0, none⟩ = some (.int .i64 acc) ∧ w'.cell? ⟨w.heap.size, 1, none⟩ = some (.slice (some ad) n c) ∧ w'.cell? ⟨wr.heap.size, 0, none⟩ = some (.int .i64 p.f0) ∧ w'.cell? ⟨wr.heap.size, 1, none⟩ = some (.int .i64 p.f1) ∧ w'.cell? ⟨wr.heap.size, 2, none⟩ = some (.int .i64 p.f2) ∧ w'.cell? ⟨wr.heap.size, 3, none⟩ = some (.int .i64 p.f3) ∧ w'.cell? ⟨wr.heap.size, 4, none⟩ = some (.int .i64 p.f4) ∧ w'.cell? ⟨wr.heap.size, 5, none⟩ = some (.int .i64 p.f5) ∧ w'.cell? ⟨wr.heap.size, 6, none⟩ = some (.int .i64 p.f6) ∧ w'.cell? ⟨(ad.add (m * 7)).block, (ad.add (m * 7)).off + 1, none⟩ = some (.int .i64 q.f1)) (ds := []) (bb 21 0) (by kernel_rfl) rfl rfl hS (fun hHeld => ?_)
            generalize w1.drew = wd at *
            refine take_ (i := 0) (N := (some 39)) (v := ?_) (a' := ?_) (bb 21 1) rfl rfl (by kernel_rfl) (fun _ _ _ h => h) (Or.inl ⟨by rfl, ?_⟩) hHeld ?_ ?_
            rotate_left; (rintro w' ⟨s0, s1, s2, s3, s4, s5, s6, s7, s8, s9⟩; go_simp; with_reducible rfl); rotate_left; (simp only [Act.put, z1, z2, z3, i64_w, i32_w]; rfl)
            refine pure_ (i := 1) (N := (some 40)) (v := ?_) (a' := ?_) (bb 21 3) rfl rfl (by kernel_rfl) (fun _ _ _ h => h) (Or.inl ⟨by rfl, ?_⟩) ?_ ?_
            rotate_left; (intro w'; go_simp; with_reducible rfl); rotate_left; (simp only [Act.put, z1, z2, z3, i64_w, i32_w]; rfl)
            refine take_ (i := 2) (N := (some 41)) (v := ?_) (a' := ?_) (bb 21 7) rfl rfl (by kernel_rfl) (fun _ _ _ h => h) (Or.inl ⟨by rfl, ?_⟩) hHeld ?_ ?_
            rotate_left; (rintro w' ⟨s0, s1, s2, s3, s4, s5, s6, s7, s8, s9⟩; go_simp; with_reducible rfl); rotate_left; (simp only [Act.put, z1, z2, z3, i64_w, i32_w]; rfl)
            refine one_ (i := 3) (N := (some 42)) (bb 21 15) rfl rfl (by kernel_rfl) (by decide) (fun K hK => ?_)
            refine goes_ Tryd.func57 (by kernel_rfl) rfl #[.agg #[.int .i64 p.f0, .int .i64 p.f1, .int .i64 p.f2, .int .i64 p.f3, .int .i64 p.f4, .int .i64 p.f5, .int .i64 p.f6], .int .i64 acc] (by rfl) rfl rfl (by (try simp only [List.map_toArray, List.map_cons, List.map_nil]); first | done | rfl) ?_
            refine (rformed_walk acc p true HF.out _).mono ?_
            rintro e w2 ⟨rfl, hbc⟩
            refine ⟨_, rfl, ?_⟩
            refine hK.out _ _ ⟨keepB hbc hHeld.1, keepB hbc hHeld.2.1, keepB hbc hHeld.2.2.1, keepB hbc hHeld.2.2.2.1, keepB hbc hHeld.2.2.2.2.1, keepB hbc hHeld.2.2.2.2.2.1, keepB hbc hHeld.2.2.2.2.2.2.1, keepB hbc hHeld.2.2.2.2.2.2.2.1, keepB hbc hHeld.2.2.2.2.2.2.2.2.1, keepB hbc hHeld.2.2.2.2.2.2.2.2.2⟩ (fun hHeld => ?_)
            clear hK K
            refine norm_ (a' := ?_) ?_ ?_
            rotate_left
            · show Act.put _ (some 42) _ = _
              simp only [Act.put, z1, z2, z3, i64_w, i32_w]
              rfl
            refine pure_ (i := 4) (N := (some 43)) (v := ?_) (a' := ?_) (bb 21 31) rfl rfl (by kernel_rfl) (fun _ _ _ h => h) (Or.inl ⟨by rfl, ?_⟩) ?_ ?_
            rotate_left; (intro w'; go_simp; with_reducible rfl); rotate_left; (simp only [Act.put, z1, z2, z3, i64_w, i32_w]; rfl)
            refine pure_ (i := 5) (N := (some 44)) (v := ?_) (a' := ?_) (bb 21 63) rfl rfl (by kernel_rfl) (fun _ _ _ h => h) (Or.inl ⟨by rfl, ?_⟩) ?_ ?_
            rotate_left; (intro w'; go_simp; with_reducible rfl); rotate_left; (simp only [Act.put, z1, z2, z3, i64_w, i32_w]; rfl)
            refine pure_ (i := 6) (N := (some 45)) (v := ?_) (a' := ?_) (bb 21 127) rfl rfl (by kernel_rfl) (fun _ _ _ h => h) (Or.inl ⟨by rfl, ?_⟩) ?_ ?_
            rotate_left; (intro w'; go_simp; with_reducible rfl); rotate_left; (simp only [Act.put, z1, z2, z3, i64_w, i32_w]; rfl)
            refine pure_ (i := 7) (N := (some 46)) (v := ?_) (a' := ?_) (bb 21 255) rfl rfl (by kernel_rfl) (fun _ _ _ h => h) (Or.inl ⟨by rfl, ?_⟩) ?_ ?_
            rotate_left; (intro w'; go_simp; with_reducible rfl); rotate_left; (simp only [Act.put, z1, z2, z3, i64_w, i32_w]; rfl)
            refine pure_ (i := 8) (N := (some 47)) (v := ?_) (a' := ?_) (bb 21 511) rfl rfl (by kernel_rfl) (fun _ _ _ h => h) (Or.inl ⟨by rfl, ?_⟩) ?_ ?_
            rotate_left; (intro w'; go_simp; with_reducible rfl); rotate_left; (simp only [Act.put, z1, z2, z3, i64_w, i32_w]; rfl)
            refine pure_ (i := 9) (N := (some 48)) (v := ?_) (a' := ?_) (bb 21 1023) rfl rfl (by kernel_rfl) (fun _ _ _ h => h) (Or.inl ⟨by rfl, ?_⟩) ?_ ?_
            rotate_left; (intro w'; go_simp; with_reducible rfl); rotate_left; (simp only [Act.put, z1, z2, z3, i64_w, i32_w]; rfl)
            refine take_ (i := 10) (N := (some 49)) (v := ?_) (a' := ?_) (bb 21 2047) rfl rfl (by kernel_rfl) (fun _ _ _ h => h) (Or.inl ⟨by rfl, ?_⟩) hHeld ?_ ?_
            rotate_left; (rintro w' ⟨s0, s1, s2, s3, s4, s5, s6, s7, s8, s9⟩; go_simp; with_reducible rfl); rotate_left; (simp only [Act.put, z1, z2, z3, i64_w, i32_w]; rfl)
            refine pure_ (i := 11) (N := (some 50)) (v := ?_) (a' := ?_) (bb 21 4095) rfl rfl (by kernel_rfl) (fun _ _ _ h => h) (Or.inl ⟨by rfl, ?_⟩) ?_ ?_
            rotate_left; (intro w'; go_simp; with_reducible rfl); rotate_left; (simp only [Act.put, z1, z2, z3, i64_w, i32_w]; rfl)
            refine take_ (i := 12) (N := (some 51)) (v := ?_) (a' := ?_) (bb 21 8191) rfl rfl (by kernel_rfl) (fun _ _ _ h => h) (Or.inl ⟨by rfl, ?_⟩) hHeld ?_ ?_
            rotate_left; (rintro w' ⟨s0, s1, s2, s3, s4, s5, s6, s7, s8, s9⟩; go_simp; with_reducible rfl); rotate_left; (simp only [Act.put, z1, z2, z3, i64_w, i32_w]; rfl)
            refine pure_ (i := 13) (N := (some 52)) (v := ?_) (a' := ?_) (bb 21 16383) rfl rfl (by kernel_rfl) (fun _ _ _ h => h) (Or.inl ⟨by rfl, ?_⟩) ?_ ?_
            rotate_left; (intro w'; go_simp; with_reducible rfl); rotate_left; (simp only [Act.put, z1, z2, z3, i64_w, i32_w]; rfl)
            refine pure_ (i := 14) (N := (some 53)) (v := ?_) (a' := ?_) (bb 21 32767) rfl rfl (by kernel_rfl) (fun _ _ _ h => h) (Or.inl ⟨by rfl, ?_⟩) ?_ ?_
            rotate_left; (intro w'; go_simp; with_reducible rfl); rotate_left; (simp only [Act.put, z1, z2, z3, i64_w, i32_w]; rfl)
            refine pure_ (i := 15) (N := (some 54)) (v := ?_) (a' := ?_) (bb 21 65535) rfl rfl (by kernel_rfl) (fun _ _ _ h => h) (Or.inl ⟨by rfl, ?_⟩) ?_ ?_
            rotate_left; (intro w'; go_simp; with_reducible rfl); rotate_left; (simp only [Act.put, z1, z2, z3, i64_w, i32_w]; rfl)
            refine pure_ (i := 16) (N := (some 55)) (v := ?_) (a' := ?_) (bb 21 131071) rfl rfl (by kernel_rfl) (fun _ _ _ h => h) (Or.inl ⟨by rfl, ?_⟩) ?_ ?_
            rotate_left; (intro w'; go_simp; with_reducible rfl); rotate_left; (simp only [Act.put, z1, z2, z3, i64_w, i32_w]; rfl)
            refine take_ (i := 17) (N := (some 56)) (v := ?_) (a' := ?_) (bb 21 262143) rfl rfl (by kernel_rfl) (fun _ _ _ h => h) (Or.inl ⟨by rfl, ?_⟩) hHeld ?_ ?_
            rotate_left; (rintro w' ⟨s0, s1, s2, s3, s4, s5, s6, s7, s8, s9⟩; go_simp; with_reducible rfl); rotate_left; (simp only [Act.put, z1, z2, z3, i64_w, i32_w]; rfl)
            refine pure_ (i := 18) (N := (some 57)) (v := ?_) (a' := ?_) (bb 21 524287) rfl rfl (by kernel_rfl) (fun _ _ _ h => h) (Or.inl ⟨by rfl, ?_⟩) ?_ ?_
            rotate_left; (intro w'; go_simp; with_reducible rfl); rotate_left; (simp only [Act.put, z1, z2, z3, i64_w, i32_w]; rfl)
            refine pure_ (i := 19) (N := (some 58)) (v := ?_) (a' := ?_) (bb 21 1048575) rfl rfl (by kernel_rfl) (fun _ _ _ h => h) (Or.inl ⟨by rfl, ?_⟩) ?_ ?_
            rotate_left; (intro w'; go_simp; with_reducible rfl); rotate_left; (simp only [Act.put, z1, z2, z3, i64_w, i32_w]; rfl)
            refine pure_ (i := 20) (N := (some 59)) (v := ?_) (a' := ?_) (bb 21 2097151) rfl rfl (by kernel_rfl) (fun _ _ _ h => h) (Or.inl ⟨by rfl, ?_⟩) ?_ ?_
            rotate_left; (intro w'; go_simp; with_reducible rfl); rotate_left; (simp only [Act.put, z1, z2, z3, i64_w, i32_w]; rfl)
            refine done_ (by kernel_rfl) ?_
            have hb2 : Below wr.heap.size wr w2 := Below.trans hb1 (hbc.mono hb1.size)
            clear hS hb1 hbc
            go_wp2
            go_ret
            exact ⟨by have h := HST.out; rw [HF.out, HDAY.out] at h; rw [show r = false by simpa using h]; rfl, Below.trans HB.out (hb2.mono HB.out.size)⟩
          | false =>
            have HDAY := Lib.hid (show dayR ps k p = false by unfold dayR; rw [if_neg H0.out, HQ.out]; exact hday)
            refine start_ (n := 21) (S := fun w' => w'.cell? ⟨w.heap.size, 0, none⟩ = some (.int .i64 acc) ∧ w'.cell? ⟨w.heap.size, 1, none⟩ = some (.slice (some ad) n c) ∧ w'.cell? ⟨wr.heap.size, 0, none⟩ = some (.int .i64 p.f0) ∧ w'.cell? ⟨wr.heap.size, 1, none⟩ = some (.int .i64 p.f1) ∧ w'.cell? ⟨wr.heap.size, 2, none⟩ = some (.int .i64 p.f2) ∧ w'.cell? ⟨wr.heap.size, 3, none⟩ = some (.int .i64 p.f3) ∧ w'.cell? ⟨wr.heap.size, 4, none⟩ = some (.int .i64 p.f4) ∧ w'.cell? ⟨wr.heap.size, 5, none⟩ = some (.int .i64 p.f5) ∧ w'.cell? ⟨wr.heap.size, 6, none⟩ = some (.int .i64 p.f6) ∧ w'.cell? ⟨(ad.add (m * 7)).block, (ad.add (m * 7)).off + 1, none⟩ = some (.int .i64 q.f1)) (ds := []) (bb 21 0) (by kernel_rfl) rfl rfl hS (fun hHeld => ?_)
            generalize w1.drew = wd at *
            refine take_ (i := 0) (N := (some 39)) (v := ?_) (a' := ?_) (bb 21 1) rfl rfl (by kernel_rfl) (fun _ _ _ h => h) (Or.inl ⟨by rfl, ?_⟩) hHeld ?_ ?_
            rotate_left; (rintro w' ⟨s0, s1, s2, s3, s4, s5, s6, s7, s8, s9⟩; go_simp; with_reducible rfl); rotate_left; (simp only [Act.put, z1, z2, z3, i64_w, i32_w]; rfl)
            refine pure_ (i := 1) (N := (some 40)) (v := ?_) (a' := ?_) (bb 21 3) rfl rfl (by kernel_rfl) (fun _ _ _ h => h) (Or.inl ⟨by rfl, ?_⟩) ?_ ?_
            rotate_left; (intro w'; go_simp; with_reducible rfl); rotate_left; (simp only [Act.put, z1, z2, z3, i64_w, i32_w]; rfl)
            refine take_ (i := 2) (N := (some 41)) (v := ?_) (a' := ?_) (bb 21 7) rfl rfl (by kernel_rfl) (fun _ _ _ h => h) (Or.inl ⟨by rfl, ?_⟩) hHeld ?_ ?_
            rotate_left; (rintro w' ⟨s0, s1, s2, s3, s4, s5, s6, s7, s8, s9⟩; go_simp; with_reducible rfl); rotate_left; (simp only [Act.put, z1, z2, z3, i64_w, i32_w]; rfl)
            refine one_ (i := 3) (N := (some 42)) (bb 21 15) rfl rfl (by kernel_rfl) (by decide) (fun K hK => ?_)
            refine goes_ Tryd.func57 (by kernel_rfl) rfl #[.agg #[.int .i64 p.f0, .int .i64 p.f1, .int .i64 p.f2, .int .i64 p.f3, .int .i64 p.f4, .int .i64 p.f5, .int .i64 p.f6], .int .i64 acc] (by rfl) rfl rfl (by (try simp only [List.map_toArray, List.map_cons, List.map_nil]); first | done | rfl) ?_
            refine (rformed_walk acc p true HF.out _).mono ?_
            rintro e w2 ⟨rfl, hbc⟩
            refine ⟨_, rfl, ?_⟩
            refine hK.out _ _ ⟨keepB hbc hHeld.1, keepB hbc hHeld.2.1, keepB hbc hHeld.2.2.1, keepB hbc hHeld.2.2.2.1, keepB hbc hHeld.2.2.2.2.1, keepB hbc hHeld.2.2.2.2.2.1, keepB hbc hHeld.2.2.2.2.2.2.1, keepB hbc hHeld.2.2.2.2.2.2.2.1, keepB hbc hHeld.2.2.2.2.2.2.2.2.1, keepB hbc hHeld.2.2.2.2.2.2.2.2.2⟩ (fun hHeld => ?_)
            clear hK K
            refine norm_ (a' := ?_) ?_ ?_
            rotate_left
            · show Act.put _ (some 42) _ = _
              simp only [Act.put, z1, z2, z3, i64_w, i32_w]
              rfl
            refine pure_ (i := 4) (N := (some 43)) (v := ?_) (a' := ?_) (bb 21 31) rfl rfl (by kernel_rfl) (fun _ _ _ h => h) (Or.inl ⟨by rfl, ?_⟩) ?_ ?_
            rotate_left; (intro w'; go_simp; with_reducible rfl); rotate_left; (simp only [Act.put, z1, z2, z3, i64_w, i32_w]; rfl)
            refine pure_ (i := 5) (N := (some 44)) (v := ?_) (a' := ?_) (bb 21 63) rfl rfl (by kernel_rfl) (fun _ _ _ h => h) (Or.inl ⟨by rfl, ?_⟩) ?_ ?_
            rotate_left; (intro w'; go_simp; with_reducible rfl); rotate_left; (simp only [Act.put, z1, z2, z3, i64_w, i32_w]; rfl)
            refine pure_ (i := 6) (N := (some 45)) (v := ?_) (a' := ?_) (bb 21 127) rfl rfl (by kernel_rfl) (fun _ _ _ h => h) (Or.inl ⟨by rfl, ?_⟩) ?_ ?_
            rotate_left; (intro w'; go_simp; with_reducible rfl); rotate_left; (simp only [Act.put, z1, z2, z3, i64_w, i32_w]; rfl)
            refine pure_ (i := 7) (N := (some 46)) (v := ?_) (a' := ?_) (bb 21 255) rfl rfl (by kernel_rfl) (fun _ _ _ h => h) (Or.inl ⟨by rfl, ?_⟩) ?_ ?_
            rotate_left; (intro w'; go_simp; with_reducible rfl); rotate_left; (simp only [Act.put, z1, z2, z3, i64_w, i32_w]; rfl)
            refine pure_ (i := 8) (N := (some 47)) (v := ?_) (a' := ?_) (bb 21 511) rfl rfl (by kernel_rfl) (fun _ _ _ h => h) (Or.inl ⟨by rfl, ?_⟩) ?_ ?_
            rotate_left; (intro w'; go_simp; with_reducible rfl); rotate_left; (simp only [Act.put, z1, z2, z3, i64_w, i32_w]; rfl)
            refine pure_ (i := 9) (N := (some 48)) (v := ?_) (a' := ?_) (bb 21 1023) rfl rfl (by kernel_rfl) (fun _ _ _ h => h) (Or.inl ⟨by rfl, ?_⟩) ?_ ?_
            rotate_left; (intro w'; go_simp; with_reducible rfl); rotate_left; (simp only [Act.put, z1, z2, z3, i64_w, i32_w]; rfl)
            refine take_ (i := 10) (N := (some 49)) (v := ?_) (a' := ?_) (bb 21 2047) rfl rfl (by kernel_rfl) (fun _ _ _ h => h) (Or.inl ⟨by rfl, ?_⟩) hHeld ?_ ?_
            rotate_left; (rintro w' ⟨s0, s1, s2, s3, s4, s5, s6, s7, s8, s9⟩; go_simp; with_reducible rfl); rotate_left; (simp only [Act.put, z1, z2, z3, i64_w, i32_w]; rfl)
            refine pure_ (i := 11) (N := (some 50)) (v := ?_) (a' := ?_) (bb 21 4095) rfl rfl (by kernel_rfl) (fun _ _ _ h => h) (Or.inl ⟨by rfl, ?_⟩) ?_ ?_
            rotate_left; (intro w'; go_simp; with_reducible rfl); rotate_left; (simp only [Act.put, z1, z2, z3, i64_w, i32_w]; rfl)
            refine take_ (i := 12) (N := (some 51)) (v := ?_) (a' := ?_) (bb 21 8191) rfl rfl (by kernel_rfl) (fun _ _ _ h => h) (Or.inl ⟨by rfl, ?_⟩) hHeld ?_ ?_
            rotate_left; (rintro w' ⟨s0, s1, s2, s3, s4, s5, s6, s7, s8, s9⟩; go_simp; with_reducible rfl); rotate_left; (simp only [Act.put, z1, z2, z3, i64_w, i32_w]; rfl)
            refine pure_ (i := 13) (N := (some 52)) (v := ?_) (a' := ?_) (bb 21 16383) rfl rfl (by kernel_rfl) (fun _ _ _ h => h) (Or.inl ⟨by rfl, ?_⟩) ?_ ?_
            rotate_left; (intro w'; go_simp; with_reducible rfl); rotate_left; (simp only [Act.put, z1, z2, z3, i64_w, i32_w]; rfl)
            refine pure_ (i := 14) (N := (some 53)) (v := ?_) (a' := ?_) (bb 21 32767) rfl rfl (by kernel_rfl) (fun _ _ _ h => h) (Or.inl ⟨by rfl, ?_⟩) ?_ ?_
            rotate_left; (intro w'; go_simp; with_reducible rfl); rotate_left; (simp only [Act.put, z1, z2, z3, i64_w, i32_w]; rfl)
            refine pure_ (i := 15) (N := (some 54)) (v := ?_) (a' := ?_) (bb 21 65535) rfl rfl (by kernel_rfl) (fun _ _ _ h => h) (Or.inl ⟨by rfl, ?_⟩) ?_ ?_
            rotate_left; (intro w'; go_simp; with_reducible rfl); rotate_left; (simp only [Act.put, z1, z2, z3, i64_w, i32_w]; rfl)
            refine pure_ (i := 16) (N := (some 55)) (v := ?_) (a' := ?_) (bb 21 131071) rfl rfl (by kernel_rfl) (fun _ _ _ h => h) (Or.inl ⟨by rfl, ?_⟩) ?_ ?_
            rotate_left; (intro w'; go_simp; with_reducible rfl); rotate_left; (simp only [Act.put, z1, z2, z3, i64_w, i32_w]; rfl)
            refine take_ (i := 17) (N := (some 56)) (v := ?_) (a' := ?_) (bb 21 262143) rfl rfl (by kernel_rfl) (fun _ _ _ h => h) (Or.inl ⟨by rfl, ?_⟩) hHeld ?_ ?_
            rotate_left; (rintro w' ⟨s0, s1, s2, s3, s4, s5, s6, s7, s8, s9⟩; go_simp; with_reducible rfl); rotate_left; (simp only [Act.put, z1, z2, z3, i64_w, i32_w]; rfl)
            refine pure_ (i := 18) (N := (some 57)) (v := ?_) (a' := ?_) (bb 21 524287) rfl rfl (by kernel_rfl) (fun _ _ _ h => h) (Or.inl ⟨by rfl, ?_⟩) ?_ ?_
            rotate_left; (intro w'; go_simp; with_reducible rfl); rotate_left; (simp only [Act.put, z1, z2, z3, i64_w, i32_w]; rfl)
            refine pure_ (i := 19) (N := (some 58)) (v := ?_) (a' := ?_) (bb 21 1048575) rfl rfl (by kernel_rfl) (fun _ _ _ h => h) (Or.inl ⟨by rfl, ?_⟩) ?_ ?_
            rotate_left; (intro w'; go_simp; with_reducible rfl); rotate_left; (simp only [Act.put, z1, z2, z3, i64_w, i32_w]; rfl)
            refine pure_ (i := 20) (N := (some 59)) (v := ?_) (a' := ?_) (bb 21 2097151) rfl rfl (by kernel_rfl) (fun _ _ _ h => h) (Or.inl ⟨by rfl, ?_⟩) ?_ ?_
            rotate_left; (intro w'; go_simp; with_reducible rfl); rotate_left; (simp only [Act.put, z1, z2, z3, i64_w, i32_w]; rfl)
            refine done_ (by kernel_rfl) ?_
            have hb2 : Below wr.heap.size wr w2 := Below.trans hb1 (hbc.mono hb1.size)
            clear hS hb1 hbc
            obtain ⟨s0, s1, z0, z1, z2, z3, z4, z5, z6, s9⟩ := hHeld
            rcases HFO.out with ⟨hk12, hm1⟩ | ⟨h3, h6a, h6b⟩
            · have H3 := Lib.hid (show p.f0 ≠ 3 by omega)
              rcases hk12 with h1 | h1
              · have e1 : (p.f0 == 1) = true := by simp [h1]
                clear h1 hm1
                go_wp2
                go_roundw
                case rel => exact ⟨k + 1, bk, by omega, by go_num, Lib.hid (HW.out.belowS hb2), Lib.hid ((HI.out.below hb2).other HKL.out (by rw [HP.out]; exact H3.out)), Lib.hid (Below.trans HB.out (hb2.mono HB.out.size)), Lib.hid (by have h := HST.out; rw [HF.out, HDAY.out, decide_eq_true H3.out] at h; simpa using h.symm)⟩
                case measure => simp [intOf]; omega
              · have e1 : (p.f0 == 1) = false := by simp [h1]
                have e2 : (p.f0 == 2) = true := by simp [h1]
                clear h1 hm1
                go_wp2
                go_roundw
                case rel => exact ⟨k + 1, bk, by omega, by go_num, Lib.hid (HW.out.belowS hb2), Lib.hid ((HI.out.below hb2).other HKL.out (by rw [HP.out]; exact H3.out)), Lib.hid (Below.trans HB.out (hb2.mono HB.out.size)), Lib.hid (by have h := HST.out; rw [HF.out, HDAY.out, decide_eq_true H3.out] at h; simpa using h.symm)⟩
                case measure => simp [intOf]; omega
            · have e1 : (p.f0 == 1) = false := by simp [h3]
              have e2 : (p.f0 == 2) = false := by simp [h3]
              have H3 := Lib.hid h3
              by_cases h6 : p.f6 < (k : Int)
              · have d6 : decide ((k : Int) ≤ p.f6) = false := decide_eq_false (by omega)
                have i1 : p.f6 < (n : Int) := by omega
                have i2 : p.f6.toNat < n := by omega
                have H6 := Lib.hid h6
                have H6A := Lib.hid (And.intro h6a h6b)
                have hI := HI.out.below hb2
                obtain ⟨g, cap, ev, hbg, hgl, hcs⟩ := Kd.R_form hI.1 (by rw [hI.2.1]; omega)
                rw [hI.2.1] at ev
                subst ev
                have hcell : w2.cell? ⟨g, p.f6.toNat, none⟩ = some (.bool (bk.getD p.f6.toNat false)) := (Kd.R_celln false hI.1 p.f6 h6a i1).1
                have HB6 := Lib.hid (show bk.getD p.f6.toNat false = (backs (ps.take k)).getD p.f6.toNat false from hI.2.2 _ i2)
                have HI2 := Lib.hid hI
                clear hI hcs h3 h6 h6b
                cases hbb : bk.getD p.f6.toNat false with
                | true =>
                  rw [hbb] at hcell
                  have HBB := Lib.hid hbb
                  clear hbb
                  go_wp2
                  go_ret
                  exact ⟨by have h := HST.out; rw [HF.out, HDAY.out, decide_eq_false (show ¬ p.f0 ≠ 3 from fun h => h H3.out), decide_eq_true H6.out, ← HB6.out, HBB.out] at h; rw [show r = false by simpa using h]; rfl, Below.trans HB.out (hb2.mono HB.out.size)⟩
                | false =>
                  rw [hbb] at hcell
                  have HBB := Lib.hid hbb
                  clear hbb
                  obtain ⟨ad3, ead3, y0, y1, y2, y3, y4, y5, y6⟩ := at_T27 (Kd.C_below HX.out hb2) p.f6 h6a i1
                  obtain rfl := Option.some.inj ead3
                  have HU := Lib.hid (getD_take ps k p.f6 h6a H6.out)
                  generalize rd_T27 ps p.f6 = u at *
                  go_upto_region 14 with (fail)
                  clear y0 y1 y2 y3 y4 y5 y6
                  change Code.wp _ _ _ _ (w2.alloc (.cells #[.int .i64 u.f0, .int .i64 u.f1, .int .i64 u.f2, .int .i64 u.f3, .int .i64 u.f4, .int .i64 u.f5, .int .i64 u.f6] 27))
                  have hb3 : Below w2.heap.size w2 (w2.alloc (.cells #[.int .i64 u.f0, .int .i64 u.f1, .int .i64 u.f2, .int .i64 u.f3, .int .i64 u.f4, .int .i64 u.f5, .int .i64 u.f6] 27)) := (Below.refl _ _).alloc (Nat.le_refl _) _
                  obtain ⟨y0, y1, y2, y3, y4, y5, y6⟩ := pc_cells (Blk.new w2 27 (pcells u))
                  change (w2.alloc (.cells #[.int .i64 u.f0, .int .i64 u.f1, .int .i64 u.f2, .int .i64 u.f3, .int .i64 u.f4, .int .i64 u.f5, .int .i64 u.f6] 27)).cell? _ = _ at y0 y1 y2 y3 y4 y5 y6
                  generalize w2.alloc (.cells #[.int .i64 u.f0, .int .i64 u.f1, .int .i64 u.f2, .int .i64 u.f3, .int .i64 u.f4, .int .i64 u.f5, .int .i64 u.f6] 27) = w3 at *
                  have z0 := keepB hb3 z0
                  have z2 := keepB hb3 z2
                  have z3 := keepB hb3 z3
                  have z4 := keepB hb3 z4
                  have z5 := keepB hb3 z5
                  have z6 := keepB hb3 z6
                  have HB3 := Lib.hid (Below.trans HB.out ((Below.trans hb2 (hb3.mono hb2.size)).mono HB.out.size))
                  have HI3 := Lib.hid (HI2.out.below hb3)
                  have HW3 := Lib.hid ((HW.out.belowS hb2).belowS hb3)
                  have HLT := Lib.hid (show wr.heap.size ≤ w2.heap.size from hb2.size)
                  clear hb2 hb3 HI2 HW HB hcell
                  by_cases ce0 : u.f0 = 3
                  · skip
                    have HNB := Lib.hid (show isBackB p u = false by unfold isBackB; exact decide_eq_false (fun h => h.1 ce0))
                    have be0 : (u.f0 == 3) = true := by simp [ce0]
                    clear ce0
                    go_wp2
                    go_ret
                    exact ⟨by have h := HST.out; rw [HF.out, HDAY.out, decide_eq_false (show ¬ p.f0 ≠ 3 from fun h => h H3.out), decide_eq_true H6.out, ← HB6.out, HBB.out, HU.out, HNB.out] at h; rw [show r = false by simpa using h]; rfl, HB3.out⟩
                  · skip
                    have be0 : (u.f0 == 3) = false := by simp [ce0]
                    by_cases ce3 : p.f2 = u.f3
                    · skip
                      have be3 : (p.f2 == u.f3) = true := by simp [ce3]
                      by_cases ce4 : p.f3 = u.f2
                      · skip
                        have be4 : (p.f3 == u.f2) = true := by simp [ce4]
                        by_cases ce5 : p.f4 = u.f4
                        · skip
                          have be5 : (p.f4 == u.f4) = true := by simp [ce5]
                          by_cases ce6 : p.f5 = u.f5
                          · skip
                            have be6 : (p.f5 == u.f5) = true := by simp [ce6]
                            have HNB := Lib.hid (show isBackB p u = true by unfold isBackB; exact decide_eq_true ⟨ce0, ce3, ce4, ce5, ce6⟩)
                            obtain ⟨hc3, hf3⟩ := Kd.R_celln false HI3.out.1 p.f6 h6a i1
                            go_wp2
                            go_roundw
                            case rel =>
                              have hgw : g ≠ w.heap.size := by omega
                              refine ⟨k + 1, bk.set p.f6.toNat true, by omega, by go_num, Lib.hid (HW3.out.set_other ⟨g, p.f6.toNat, none⟩ (fun e => hgw e.symm) _), Lib.hid (HI3.out.set HKL.out p.f6.toNat (by rw [HP.out]; exact H3.out) (by rw [HP.out]; omega) (by have := H6A.out.2; omega) h200), Lib.hid (HB3.out.setCell (p := ⟨g, p.f6.toNat, none⟩) (show w.heap.size ≤ g by omega) _), Lib.hid ?_⟩
                              have h := HST.out
                              rw [HF.out, HDAY.out, decide_eq_false (show ¬ p.f0 ≠ 3 from fun h => h H3.out), decide_eq_true H6.out, ← HB6.out, HBB.out, HU.out, HNB.out] at h
                              simpa using h.symm
                            case measure => simp [intOf]; omega
                          · skip
                            have HNB := Lib.hid (show isBackB p u = false by unfold isBackB; exact decide_eq_false (fun h => ce6 h.2.2.2.2))
                            have be6 : (p.f5 == u.f5) = false := by simp [ce6]
                            skip
                            go_wp2
                            go_ret
                            exact ⟨by have h := HST.out; rw [HF.out, HDAY.out, decide_eq_false (show ¬ p.f0 ≠ 3 from fun h => h H3.out), decide_eq_true H6.out, ← HB6.out, HBB.out, HU.out, HNB.out] at h; rw [show r = false by simpa using h]; rfl, HB3.out⟩
                        · skip
                          have HNB := Lib.hid (show isBackB p u = false by unfold isBackB; exact decide_eq_false (fun h => ce5 h.2.2.2.1))
                          have be5 : (p.f4 == u.f4) = false := by simp [ce5]
                          skip
                          go_wp2
                          go_ret
                          exact ⟨by have h := HST.out; rw [HF.out, HDAY.out, decide_eq_false (show ¬ p.f0 ≠ 3 from fun h => h H3.out), decide_eq_true H6.out, ← HB6.out, HBB.out, HU.out, HNB.out] at h; rw [show r = false by simpa using h]; rfl, HB3.out⟩
                      · skip
                        have HNB := Lib.hid (show isBackB p u = false by unfold isBackB; exact decide_eq_false (fun h => ce4 h.2.2.1))
                        have be4 : (p.f3 == u.f2) = false := by simp [ce4]
                        skip
                        go_wp2
                        go_ret
                        exact ⟨by have h := HST.out; rw [HF.out, HDAY.out, decide_eq_false (show ¬ p.f0 ≠ 3 from fun h => h H3.out), decide_eq_true H6.out, ← HB6.out, HBB.out, HU.out, HNB.out] at h; rw [show r = false by simpa using h]; rfl, HB3.out⟩
                    · skip
                      have HNB := Lib.hid (show isBackB p u = false by unfold isBackB; exact decide_eq_false (fun h => ce3 h.2.1))
                      have be3 : (p.f2 == u.f3) = false := by simp [ce3]
                      skip
                      go_wp2
                      go_ret
                      exact ⟨by have h := HST.out; rw [HF.out, HDAY.out, decide_eq_false (show ¬ p.f0 ≠ 3 from fun h => h H3.out), decide_eq_true H6.out, ← HB6.out, HBB.out, HU.out, HNB.out] at h; rw [show r = false by simpa using h]; rfl, HB3.out⟩
              · have d6 : decide ((k : Int) ≤ p.f6) = true := decide_eq_true (by omega)
                have H6 := Lib.hid h6
                clear h3 h6a h6b h6
                go_wp2
                go_ret
                exact ⟨by have h := HST.out; rw [HF.out, HDAY.out, decide_eq_false (show ¬ p.f0 ≠ 3 from fun h => h H3.out), decide_eq_false (show ¬ p.f6 < (k : Int) by have := H6.out; omega)] at h; rw [show r = false by simpa using h]; rfl, Below.trans HB.out (hb2.mono HB.out.size)⟩
    · obtain rfl : k = n := by omega
      have hr1 : r = true := by rw [← HOK.out, List.drop_of_length_le (by rw [HL.out]; exact Nat.le_refl _)]; rfl
      have HR1 := Lib.hid hr1
      clear hr1
      go_wp2
      go_ret
      exact ⟨by rw [HR1.out]; rfl, HB.out⟩
theorem rValid_walk (acc clo : Int) (A : Option Addr) (n c : Nat) (ps : List S27) (hl : ps.length = n) (r : Bool) (hr : validB acc ps clo = r) (w : World) (hC : Kd.C k27 w A n ps) :
    Calls Tryd.prog 37 #[.agg #[.int .i64 acc, .slice A n c, .int .i64 clo]] w fun e w' => e = .returned (.bool r) ∧ Below w.heap.size w w' := by
  unfold validB inB at hr
  cases ha : decide (2 ≤ acc ∧ acc ≤ 16) with
  | false =>
    have : r = false := by rw [← hr, Bool.and_eq_false_iff]; exact Or.inr (decide_eq_false fun h => of_decide_eq_false ha h.1)
    subst this
    exact rValid_e1 acc clo A n c ps hl ha w
  | true =>
    cases hb : decide (0 ≤ clo ∧ clo ≤ 12) with
    | false =>
      have : r = false := by rw [← hr, Bool.and_eq_false_iff]; exact Or.inr (decide_eq_false fun h => of_decide_eq_false hb h.2)
      subst this
      exact rValid_e2 acc clo A n c ps hl ha hb w
    | true =>
      rw [decide_eq_true (show (2 ≤ acc ∧ acc ≤ 16) ∧ (0 ≤ clo ∧ clo ≤ 12) from ⟨of_decide_eq_true ha, of_decide_eq_true hb⟩), Bool.and_true] at hr
      by_cases h200 : n ≤ 200
      · exact rValid_main acc clo A n c ps hl ha hb h200 r hr w hC
      · have : r = false := by
          cases hk : okAll acc [] ps with
          | false => rw [← hr, hk]
          | true => have := okAll_200 hk; omega
        subst this
        exact rValid_e3 acc clo A n c ps hl ha hb (by omega) w
end Go.Proofs.YtooogaogbffjfaaDoor.Ext
end
section
set_option linter.unusedVariables false
set_option linter.unusedSimpArgs false
namespace Go.Proofs.YtooogaogbffjfaaDoor.PB
set_option maxRecDepth 100000
open Go.RowKit Go.Shelf Go.Proofs.YtooogaogbffjfaaDoorW.PrintWords Go.Proofs.YtooogaogbffjfaaDoorW.PrintLast Go.Proofs.YtooogaogbffjfaaDoorW.PrintMore Go.Proofs.YtooogaogbffjfaaDoor.PK Go.Proofs.YtooogaogbffjfaaDoor.Bk Go.Proofs.YtooogaogbffjfaaDoor.Ext
def aircheckref24_Valid.f (k : Nat) (a0_0 : Int) (l0_1 : List (S27)) (a0_2 : Int) : Option (Bool) := some (validB a0_0 l0_1 a0_2)
theorem aircheckref24_Valid.calls (k : Nat) (a0_0 : Int) (A0_1 : Option Addr) (c0_1 : Nat) (l0_1 : List (S27)) (a0_2 : Int) (r : Bool) (w : World) (hr0_1 : Kd.C k27 w A0_1 l0_1.length l0_1) (hc0_1 : l0_1.length ≤ c0_1) (h : aircheckref24_Valid.f k a0_0 l0_1 a0_2 = some r) :
  Calls Tryd.prog 37 #[.agg #[.int .i64 a0_0, .slice A0_1 l0_1.length c0_1, .int .i64 a0_2]] w fun e w' => e = .returned (.bool r) ∧ Below w.heap.size w w' :=
 rValid_walk a0_0 a0_2 A0_1 l0_1.length c0_1 l0_1 rfl r (Option.some.inj h) w hr0_1
end Go.Proofs.YtooogaogbffjfaaDoor.PB
end
section
set_option linter.unusedVariables false
set_option linter.unusedSimpArgs false
namespace Go.Proofs.YtooogaogbffjfaaDoor.Bk
set_option maxRecDepth 100000
open Go.RowKit Go.Shelf Go.Proofs.YtooogaogbffjfaaDoorW.PrintWords Go.Proofs.YtooogaogbffjfaaDoorW.PrintLast Go.Proofs.YtooogaogbffjfaaDoorW.PrintMore Go.Proofs.YtooogaogbffjfaaDoor.PK Go.Proofs.YtooogaogbffjfaaDoor.PB Go.Proofs.YtooogaogbffjfaaDoor.Ext
theorem refValid_is (k : Nat) (acc clo : Int) (ps : List S27) (hk : 1000 ≤ k) (hn : ps.length ≤ 1000000) : aircheckref24_Valid.f k acc ps clo = some (validB acc ps clo) := rfl
end Go.Proofs.YtooogaogbffjfaaDoor.Bk
end
