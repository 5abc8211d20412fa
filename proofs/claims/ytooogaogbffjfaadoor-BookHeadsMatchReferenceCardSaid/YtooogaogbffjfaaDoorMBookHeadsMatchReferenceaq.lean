import Derived.Test.YtooogaogbffjfaaDoorMBookHeadsMatchReferenceah
import Derived.Test.YtooogaogbffjfaaDoorMBookHeadsMatchReferenceal
import Derived.Test.YtooogaogbffjfaaDoorMBookHeadsMatchReferenceao
import Derived.Test.YtooogaogbffjfaaDoorMBookHeadsMatchReferenceap
import Derived.Test.YtooogaogbffjfaaDoorMBookHeadsMatchReferenceac
import Derived.Test.YtooogaogbffjfaaDoorMBookHeadsMatchReferencean
/-
  Texts of this claim, one behind the other: what they prove stands above each.
-/
section
namespace Go.Proofs.YtooogaogbffjfaaDoor.PB
open Go.Proofs.YtooogaogbffjfaaDoor.Ext
attribute [local go_sem] u32_signed u32_max
open Go.RowKit Go.Proofs.YtooogaogbffjfaaDoorW.PrintWords Go.Proofs.YtooogaogbffjfaaDoorW.PrintLast Go.Proofs.YtooogaogbffjfaaDoorW.PrintMore
attribute [local go_sem] max2_int min2_int max_two min_two max_three min_three max_four min_four   -- for this text's walks alone
set_option linter.unusedVariables false
set_option linter.unusedSimpArgs false
mutual
def aircheckref02_Sum.l0 : Nat → List Int → List Int → Int → Option (ByteArray)
 | 0, _, _, _ => none
 | k + 1, x3, x4, x5 => if x5 < (x4.length : Int) then (if 0 ≤ x5 then (if x5 ≤ (wrap64 (x5 + 64)) then (if (wrap64 (x5 + 64)) ≤ (x4.length : Int) then ((aircheckref02_block.f k x3 ((x4.take ((wrap64 (x5 + 64)) : Int).toNat).drop (x5 : Int).toNat)).bind fun t393 => (aircheckref02_Sum.l0 k t393 x4 (wrap64 (x5 + 64)))) else (none)) else (none)) else (none)) else (aircheckref02_Sum.l1 k x3 ([] : List Int) 0)
def aircheckref02_Sum.l1 : Nat → List Int → List Int → Int → Option (ByteArray)
 | 0, _, _, _ => none
 | k + 1, x3, x6, x7 => if x7 < 8 then (if 0 ≤ x7 then (if x7 < (x3.length : Int) then ((some (([((rd x3 x7) / 16777216) % 256, ((rd x3 x7) / 65536) % 256, ((rd x3 x7) / 256) % 256, (rd x3 x7) % 256] : List Int) : List Int)).bind fun y400 => (if x6.length + y400.length < 140737488355328 then (aircheckref02_Sum.l1 k x3 (x6 ++ y400) (wrap64 (x7 + 1))) else (none))) else (none)) else (none)) else (some (strOfNums x6))
end
def aircheckref02_Sum.f (k : Nat) (a0 : ByteArray) : Option (ByteArray) := (aircheckref02_extended.f k a0).bind fun t386 => (aircheckref02_Sum.l0 k (([1779033703, 3144134277, 1013904242, 2773480762, 1359893119, 2600822924, 528734635, 1541459225] : List Int)) t386 0)
def aircheckref02_Sum.T11 : Bool × List (List Nat × List Nat) := (true, [([], []), ([], []), ([], []), ([1, 2], [1, 2]), ([3], [3]), ([4], [4]), ([5], [5]), ([], []), ([], []), ([7, 8], [7, 8]), ([9], [9]), ([10], [10]), ([11], [11]), ([], []), ([], []), ([13, 14], [13, 14]), ([15], [15]), ([16], [16]), ([17], [17]), ([], []), ([], []), ([19, 20], [19, 20]), ([21], [21]), ([22], [22]), ([6, 12, 18, 23], [6, 12, 18, 23]), ([0, 24], [0, 24]), ([25, 25, 0, 1, 2, 3, 4, 5, 6, 7, 8, 9, 10, 11, 12, 13, 14, 15, 16, 17, 18, 19, 20, 21, 22, 23, 24, 25], [0, 25])])
def aircheckref02_Sum.B11 : List Nat := [0, 0, 0, 6, 14, 30, 62, 0, 0, 384, 896, 1920, 3968, 0, 0, 24576, 57344, 122880, 253952, 0, 0, 1572864, 3670016, 7864320, 16777214, 33554431, 67108863]
theorem aircheckref02_Sum.tab11 : rtab .any (opsOf Tryd.f13 11) = aircheckref02_Sum.T11 := by kernel_rfl
theorem aircheckref02_Sum.bits11 : waitsOk aircheckref02_Sum.T11.2 aircheckref02_Sum.B11 = true := by kernel_rfl
set_option maxHeartbeats 8000000 in
set_option maxRecDepth 100000 in
theorem aircheckref02_Sum.calls (k : Nat) (a0 : ByteArray) (r : ByteArray) (w : World) (h : aircheckref02_Sum.f k a0 = some r) :
  Calls Tryd.prog 13 #[.string a0] w fun e w' => e = .returned (.string r) ∧ Below w.heap.size w w' := by
 have HB := Aside0.mk (Below.refl w.heap.size w)
 have H : ((aircheckref02_extended.f k a0).bind fun t386 => (aircheckref02_Sum.l0 k (([1779033703, 3144134277, 1013904242, 2773480762, 1359893119, 2600822924, 528734635, 1541459225] : List Int)) t386 0)) = some r := h
 clear h
 obtain ⟨y383, hy383⟩ : ∃ y_ : List Int, y_ = (([1779033703, 3144134277, 1013904242, 2773480762, 1359893119, 2600822924, 528734635, 1541459225] : List Int)) := ⟨_, rfl⟩
 replace H : ((aircheckref02_extended.f k a0).bind fun t386 => (aircheckref02_Sum.l0 k y383 t386 0)) = some r := by first | (rw [hy383]; with_reducible exact H) | (have H2_ := (Option.bind_some _ _).symm.trans H; rw [hy383]; with_reducible exact H2_) | (have H2_ := (Option.bind_some _ _).symm.trans H; with_reducible exact H2_) | with_reducible exact H | (rw [hy383]; exact H) | exact H
 have Ny383 := Aside0.mk hy383
 clear hy383
 replace H := Option.bind_eq_some_iff.mp H
 obtain ⟨t386, A20, H⟩ := H
 replace H : (aircheckref02_Sum.l0 k y383 t386 0) = some r := H
 have A2 := Aside0.mk A20
 clear A20
 have H' := Aside0.mk H
 clear H
 go_enter Tryd.func13, Tryd.ntmps13
 go_wp2_with (first | ((with_reducible refine gate_dst (N := 8) rfl ?_); refine Kd.R_lit (Kd.int .u32) _ 77 ?hg (N := 8) ?hd (xs := ([1779033703, 3144134277, 1013904242, 2773480762, 1359893119, 2600822924, 528734635, 1541459225] : List Int)) (inner := [.int .u32 1779033703, .int .u32 3144134277, .int .u32 1013904242, .int .u32 2773480762, .int .u32 1359893119, .int .u32 2600822924, .int .u32 528734635, .int .u32 1541459225]) (ok := fun _ => True) (okp := fun _ => True) ?hr ?hp (fun _ hk => hk) trivial (Below.refl _ _) (Nat.le_refl _) (by simp) ?_; (case hd => rfl); (case hg => rfl); (case hr => first | (go_simp; done) | (go_simp; rfl)); (case hp => exact (Reps.one (show Kd.M (Kd.int .u32) _ _ _ 1779033703 [.int .u32 1779033703] from rfl) (Reps.one (show Kd.M (Kd.int .u32) _ _ _ 3144134277 [.int .u32 3144134277] from rfl) (Reps.one (show Kd.M (Kd.int .u32) _ _ _ 1013904242 [.int .u32 1013904242] from rfl) (Reps.one (show Kd.M (Kd.int .u32) _ _ _ 2773480762 [.int .u32 2773480762] from rfl) (Reps.one (show Kd.M (Kd.int .u32) _ _ _ 1359893119 [.int .u32 1359893119] from rfl) (Reps.one (show Kd.M (Kd.int .u32) _ _ _ 2600822924 [.int .u32 2600822924] from rfl) (Reps.one (show Kd.M (Kd.int .u32) _ _ _ 528734635 [.int .u32 528734635] from rfl) (Reps.one (show Kd.M (Kd.int .u32) _ _ _ 1541459225 [.int .u32 1541459225] from rfl) (Reps.none _ _)))))))))); intro v384 w3 ho4 hb hg_ hnew_; clear hg_ hnew_; (first | rw [← Ny383.out] at ho4 | (simp only [Int.reduceToNat] at ho4; rw [← Ny383.out] at ho4)); have n0_ := Aside0.mk (Kd.R_lower ho4 (below_size (by repeat (first | (with_reducible first | exact HB.out | apply below_alloc | apply pw_below_drewN | apply below_drew1) | exact HB.out)))); have n1_ := Aside0.mk (below_step (by repeat (first | (with_reducible first | exact HB.out | apply below_alloc | apply pw_below_drewN | apply below_drew1) | exact HB.out)) hb); clear HB; have HO385 := n0_; have HB := n1_; clear n0_ n1_; clear hb ho4) | ((with_reducible refine gate_callee (f := 38) rfl ?_); refine goesL_ (some 10) rfl rfl Tryd.func38 (by kernel_rfl) rfl #[.string a0] rfl (by (try simp only [List.map_toArray, List.map_cons, List.map_nil]); first | done | rfl | (simp only [List.length_drop, List.length_take]; rfl)) ?_; (with_reducible refine (aircheckref02_extended.calls k a0 t386 _ A2.out).mono ?_); rintro e w5 ⟨v387, rfl, ho0, hb⟩; refine ⟨_, rfl, ?_⟩; have n0_ := Aside0.mk (Kd.R_below (by (with_reducible repeat (first | apply Kd.R_alloc | apply Kd.R_drewN | apply Kd.R_drew)); exact HO385.out) hb); have n1_ := Aside0.mk (Kd.R_lower ho0 (below_size (by repeat (first | (with_reducible first | exact HB.out | apply below_alloc | apply pw_below_drewN | apply below_drew1) | exact HB.out)))); have n2_ := Aside0.mk (below_step (by repeat (first | (with_reducible first | exact HB.out | apply below_alloc | apply pw_below_drewN | apply below_drew1) | exact HB.out)) hb); clear HO385; clear HB; have HO385 := n0_; have HO388 := n1_; have HB := n2_; clear n0_ n1_ n2_; (try clear hb); (try clear hb2); (try clear hk); (try clear hi); (try clear ho0)))
 go_loopg [3, 5] k (fun kq v3 v5 w' => ∃ (x3_1 : List Int) (x5_1 : Int), v5 = .int .i64 x5_1 ∧ Aside0 (aircheckref02_Sum.l0 kq x3_1 t386 x5_1 = some r) ∧ Aside0 (kq ≤ k) ∧ Aside0 (Kd.R (Kd.int .u32) 77 w' w.heap.size (fun _ => True) v3 x3_1) ∧ Aside0 (Kd.R (Kd.int .u8) 5 w' w.heap.size (fun _ => True) v387 t386) ∧ Aside0 (Below w.heap.size w w'))
 case atStart => exact ⟨(y383), (0), (by first | rfl | (simp; done) | (simp [*]; done)), H', ⟨Nat.le_refl _⟩, ⟨by (with_reducible repeat (first | apply Kd.R_alloc | apply Kd.R_drewN | apply Kd.R_drew)); exact HO385.out⟩, ⟨by (with_reducible repeat (first | apply Kd.R_alloc | apply Kd.R_drewN | apply Kd.R_drew)); exact HO388.out⟩, ⟨by repeat (first | (with_reducible first | exact HB.out | apply below_alloc | apply pw_below_drewN | apply below_drew1) | exact HB.out)⟩⟩
 case round =>
  clear H'
  try clear c1
  try clear p2
  try clear c3
  obtain ⟨x3_1, x5_1, rfl, HA, HK1, HO_3, HO_4, HB⟩ := hrel
  cases gk with
  | zero => exact absurd HA.out (by simp [aircheckref02_Sum.l0])
  | succ k1 =>
   have H := HA.out
   clear HA
   simp only [aircheckref02_Sum.l0] at H
   by_cases c6 : x5_1 < (t386.length : Int)
   ·rw [if_pos c6] at H
    have c6b0 : decide (x5_1 < (t386.length : Int)) = true := decide_eq_true c6
    clear c6
    by_cases c7 : 0 ≤ x5_1
    ·rw [if_pos c7] at H
     have c7b0 := eq_true c7
     have c7b1 : decide (0 ≤ x5_1) = true := decide_eq_true c7
     clear c7
     by_cases c8 : x5_1 ≤ (wrap64 (x5_1 + 64))
     ·rw [if_pos c8] at H
      have c8b0 := eq_true c8
      have c8b1 : decide (x5_1 ≤ (wrap64 (x5_1 + 64))) = true := decide_eq_true c8
      by_cases c9 : (wrap64 (x5_1 + 64)) ≤ (t386.length : Int)
      ·rw [if_pos c9] at H
       have c9b0 := eq_true c9
       have c9b1 : decide ((wrap64 (x5_1 + 64)) ≤ (t386.length : Int)) = true := decide_eq_true c9
       obtain ⟨y389, hy389⟩ : ∃ y_ : List Int, y_ = ((t386.take ((wrap64 (x5_1 + 64)) : Int).toNat).drop (x5_1 : Int).toNat) := ⟨_, rfl⟩
       replace H : ((aircheckref02_block.f k1 x3_1 y389).bind fun t393 => (aircheckref02_Sum.l0 k1 t393 t386 (wrap64 (x5_1 + 64)))) = some r := by first | (rw [hy389]; with_reducible exact H) | (have H2_ := (Option.bind_some _ _).symm.trans H; rw [hy389]; with_reducible exact H2_) | (have H2_ := (Option.bind_some _ _).symm.trans H; with_reducible exact H2_) | with_reducible exact H | (rw [hy389]; exact H) | exact H
       have Ny389 := Aside0.mk hy389
       clear hy389
       replace H := Option.bind_eq_some_iff.mp H
       obtain ⟨t393, A100, H⟩ := H
       replace H : (aircheckref02_Sum.l0 k1 t393 t386 (wrap64 (x5_1 + 64))) = some r := H
       have A10 := Aside0.mk A100
       clear A100
       have H' := Aside0.mk H
       clear H
       obtain ⟨Ao11, co11, eo11⟩ := Kd.R_slice HO_4.out
       subst eo11
       have q12 : ((wrap64 (x5_1 + 64)) : Int) ≤ ((t386.length : Int) : Int) := of_decide_eq_true (by first | (with_reducible assumption) | assumption)
       obtain ⟨i012, hi012, _, hsz12, _⟩ := info_parts info5
       have hroom12 : t386.length ≤ co11 := (Kd.R_reads' HO_4.out).2.1
       have hC12 : Kd.C (Kd.int .u8) _ Ao11 t386.length t386 := (Kd.R_reads' HO_4.out).2.2
       have ql12 : (x5_1 : Int) ≤ ((wrap64 (x5_1 + 64)) : Int) := of_decide_eq_true (by first | (with_reducible assumption) | assumption)
       have q012 : (0 : Int) ≤ (x5_1 : Int) := of_decide_eq_true (by first | (with_reducible assumption) | assumption)
       have hcut12 := cut_mid (P := Tryd.prog) 57 5 .i64 .i64 Tryd.underlying57 hi012 1 hsz12 Ao11 t386.length co11 x5_1 (wrap64 (x5_1 + 64)) q012 ql12 q12 hroom12
       have hr12 := Kd.C_mid (lo := (x5_1 : Int).toNat) (hi := ((wrap64 (x5_1 + 64)) : Int).toNat) (c := co11) hC12 (by omega) (by omega) hroom12
       obtain ⟨A12, hA12⟩ : ∃ A1, A1 = (if co11 = (x5_1 : Int).toNat then Ao11 else (Ao11 : Option Addr).map (·.add ((x5_1 : Int).toNat * 1))) := ⟨_, rfl⟩
       obtain ⟨c12, hc12⟩ : ∃ c1, c1 = co11 - (x5_1 : Int).toNat := ⟨_, rfl⟩
       have hy12 : y389.length = ((wrap64 (x5_1 + 64)) : Int).toNat - (x5_1 : Int).toNat := (by rw [Ny389.out, List.length_drop, List.length_take] <;> omega)
       rw [show ((t386).take ((wrap64 (x5_1 + 64)) : Int).toNat).drop (x5_1 : Int).toNat = y389 from Ny389.out.symm] at hr12
       replace hr12 : Kd.C (Kd.int .u8) _ A12 y389.length y389 := (by rw [hA12]; exact hr12)
       rw [← hy12, ← hA12, ← hc12] at hcut12
       have HR392 := Aside0.mk hr12
       have HC392 := Aside0.mk (show y389.length ≤ c12 from by rw [hy12, hc12]; exact Nat.sub_le_sub_right (Nat.le_trans (by omega) hroom12) _)
       clear hr12 hC12 hroom12 hi012 hsz12 hc12
       have KY12 := Aside0.mk hy12
       have KA12 := Aside0.mk hA12
       clear hy12 hA12
       have KL12 := Aside0.mk (show ((wrap64 (x5_1 + 64)) : Int).toNat ≤ t386.length from by omega)
       have KM12 := Aside0.mk (show (x5_1 : Int).toNat ≤ ((wrap64 (x5_1 + 64)) : Int).toNat from by omega)
       replace q12 := eq_true q12
       obtain ⟨Ao13, co13, eo13⟩ := Kd.R_slice HO_3.out
       subst eo13
       go_wp2_with (first | ((with_reducible refine gate_callee (f := 39) rfl ?_); refine goesL_ (some 23) rfl rfl Tryd.func39 (by kernel_rfl) rfl #[.slice Ao13 x3_1.length co13, .slice A12 y389.length c12] rfl (by (try simp only [List.map_toArray, List.map_cons, List.map_nil]); first | done | rfl | (simp only [List.length_drop, List.length_take]; rfl)) ?_; (with_reducible refine (aircheckref02_block.calls k1 _ _ x3_1 _ _ y389 t393 _ ?side1 ?side2 ?side3 ?side4 A10.out).mono ?_); (case side1 => repeat (first | exact (Kd.R_reads' HO_3.out).2.2 | (with_reducible refine Kd.C_alloc ?_ _) | (with_reducible refine Kd.C_drewN ?_ _) | (with_reducible refine Kd.C_drew ?_))); (case side2 => exact (Kd.R_reads' HO_3.out).2.1); (case side3 => repeat (first | exact (by repeat (first | (with_reducible exact HR392.out) | (with_reducible refine Kd.C_alloc ?_ _) | (with_reducible refine Kd.C_drewN ?_ _) | (with_reducible refine Kd.C_drew ?_) | exact HR392.out)) | (with_reducible refine Kd.C_alloc ?_ _) | (with_reducible refine Kd.C_drewN ?_ _) | (with_reducible refine Kd.C_drew ?_))); (case side4 => exact HC392.out); rintro e w14 ⟨v394, rfl, ho0, hb⟩; refine ⟨_, rfl, ?_⟩; have n0_ := Aside0.mk (Kd.R_elder' (by (with_reducible repeat (first | apply Kd.R_alloc | apply Kd.R_drewN | apply Kd.R_drew)); exact HO_3.out) (Kd.R_base ho0) hb); have n1_ := Aside0.mk (Kd.R_below (by (with_reducible repeat (first | apply Kd.R_alloc | apply Kd.R_drewN | apply Kd.R_drew)); exact HO_4.out) hb); have n2_ := Aside0.mk (Kd.R_lower (Kd.R_new' ho0 (Kd.R_lt (by (with_reducible repeat (first | apply Kd.R_alloc | apply Kd.R_drewN | apply Kd.R_drew)); exact HO_3.out))) (below_size (by repeat (first | (with_reducible first | exact HB.out | apply below_alloc | apply pw_below_drewN | apply below_drew1) | exact HB.out)))); have n3_ := Aside0.mk (Kd.C_below (by repeat (first | (with_reducible exact HR392.out) | (with_reducible refine Kd.C_alloc ?_ _) | (with_reducible refine Kd.C_drewN ?_ _) | (with_reducible refine Kd.C_drew ?_) | exact HR392.out)) hb); have n4_ := Aside0.mk (below_step (by repeat (first | (with_reducible first | exact HB.out | apply below_alloc | apply pw_below_drewN | apply below_drew1) | exact HB.out)) hb); clear HO_3; clear HO_4; clear HR392; clear HB; have HO_3 := n0_; have HO_4 := n1_; have HO395 := n2_; have HR392 := n3_; have HB := n4_; clear n0_ n1_ n2_ n3_ n4_; (try clear hb); (try clear hb2); (try clear hk); (try clear hi); (try clear ho0)))
       go_roundg k1
       case measure => have := HK1.out; omega
       case rel => exact ⟨(t393), (wrap64 (x5_1 + 64)), (by first | rfl | (simp; done) | (simp [*]; done)), H', ⟨by have := HK1.out; omega⟩, ⟨by (with_reducible repeat (first | apply Kd.R_alloc | apply Kd.R_drewN | apply Kd.R_drew)); exact Kd.R_mono HO395.out (fun _ hk => trivial)⟩, ⟨by (with_reducible repeat (first | apply Kd.R_alloc | apply Kd.R_drewN | apply Kd.R_drew)); exact HO_4.out⟩, ⟨by repeat (first | (with_reducible first | exact HB.out | apply below_alloc | apply pw_below_drewN | apply below_drew1) | exact HB.out)⟩⟩
      ·rw [if_neg c9] at H
       exact absurd H (by simp)
     ·rw [if_neg c8] at H
      exact absurd H (by simp)
    ·rw [if_neg c7] at H
     exact absurd H (by simp)
   ·rw [if_neg c6] at H
    have c6b0 : decide (x5_1 < (t386.length : Int)) = false := decide_eq_false c6
    clear c6
    have H' := Aside0.mk H
    clear H
    obtain ⟨Ao15, co15, eo15⟩ := Kd.R_slice HO_4.out
    subst eo15
    go_wp2
    go_loopg [6, 7] k1 (fun kq v6 v7 w' => ∃ (x6_2 : List Int) (x7_2 : Int), v7 = .int .i64 x7_2 ∧ Aside0 (aircheckref02_Sum.l1 kq x3_1 x6_2 x7_2 = some r) ∧ Aside0 (kq ≤ k1) ∧ Aside0 (Kd.R (Kd.int .u32) 77 w' w.heap.size (fun _ => True) u3 x3_1) ∧ Aside0 (Kd.R (Kd.int .u8) 5 w' w.heap.size (fun _ => True) v6 x6_2) ∧ Aside0 (Below w.heap.size w w'))
    case atStart => exact ⟨(([] : List Int)), (0), (by first | rfl | (simp; done) | (simp [*]; done)), H', ⟨Nat.le_refl _⟩, ⟨by (with_reducible repeat (first | apply Kd.R_alloc | apply Kd.R_drewN | apply Kd.R_drew)); exact HO_3.out⟩, ⟨by first | exact Kd.R_nil _ _ _ _ _ | exact Kd.N_nil _ _ _ _ _ | exact Kd.V_nil _ _ _ _ _ | exact Kd.Q_nil _ _ _ _ _ | exact Kd.S_nil _ _ _ _ _⟩, ⟨by repeat (first | (with_reducible first | exact HB.out | apply below_alloc | apply pw_below_drewN | apply below_drew1) | exact HB.out)⟩⟩
    case round =>
     clear H'
     try clear c1
     try clear q1
     try clear p2
     try clear c3
     try clear c6
     try clear c6b0
     try clear p6
     try clear c7
     try clear c7b0
     try clear c7b1
     try clear c8
     try clear c8b0
     try clear c8b1
     try clear c9
     try clear c9b0
     try clear c9b1
     try clear c12
     try clear q12
     try clear c13
     try clear p2
     try clear q012
     try clear q12
     obtain ⟨x6_2, x7_2, rfl, HA, HK2, HO_3, HO_6, HB⟩ := hrel
     cases gk with
     | zero => exact absurd HA.out (by simp [aircheckref02_Sum.l1])
     | succ k2 =>
      have H := HA.out
      clear HA
      simp only [aircheckref02_Sum.l1] at H
      by_cases c16 : x7_2 < 8
      ·rw [if_pos c16] at H
       have c16b0 : decide (x7_2 < 8) = true := decide_eq_true c16
       clear c16
       by_cases c17 : 0 ≤ x7_2
       ·rw [if_pos c17] at H
        have c17b0 : decide (0 ≤ x7_2) = true := decide_eq_true c17
        clear c17
        by_cases c18 : x7_2 < (x3_1.length : Int)
        ·rw [if_pos c18] at H
         have c18b0 : decide (x7_2 < (x3_1.length : Int)) = true := decide_eq_true c18
         clear c18
         obtain ⟨y400, hy400⟩ : ∃ y_ : List Int, y_ = (([((rd x3_1 x7_2) / 16777216) % 256, ((rd x3_1 x7_2) / 65536) % 256, ((rd x3_1 x7_2) / 256) % 256, (rd x3_1 x7_2) % 256] : List Int)) := ⟨_, rfl⟩
         replace H : (if x6_2.length + y400.length < 140737488355328 then (aircheckref02_Sum.l1 k2 x3_1 (x6_2 ++ y400) (wrap64 (x7_2 + 1))) else (none)) = some r := by first | (rw [hy400]; with_reducible exact H) | (have H2_ := (Option.bind_some _ _).symm.trans H; rw [hy400]; with_reducible exact H2_) | (have H2_ := (Option.bind_some _ _).symm.trans H; with_reducible exact H2_) | with_reducible exact H | (rw [hy400]; exact H) | exact H
         have Ny400 := Aside0.mk hy400
         clear hy400
         by_cases c19 : x6_2.length + y400.length < 140737488355328
         ·rw [if_pos c19] at H
          have LMc19 := Aside0.mk c19
          clear c19
          obtain ⟨y403, hy403⟩ : ∃ y_ : List Int, y_ = (x6_2 ++ y400) := ⟨_, rfl⟩
          replace H : (aircheckref02_Sum.l1 k2 x3_1 y403 (wrap64 (x7_2 + 1))) = some r := by first | (rw [hy403]; with_reducible exact H) | (have H2_ := (Option.bind_some _ _).symm.trans H; rw [hy403]; with_reducible exact H2_) | (have H2_ := (Option.bind_some _ _).symm.trans H; with_reducible exact H2_) | with_reducible exact H | (rw [hy403]; exact H) | exact H
          have Ny403 := Aside0.mk hy403
          clear hy403
          have H' := Aside0.mk H
          clear H
          try go_wp2
          have n0_ := Aside0.mk (Kd.R_drew HO_3.out)
          have n1_ := Aside0.mk (Kd.R_drew HO_6.out)
          have n2_ := Aside0.mk (below_drew1 HB.out)
          clear HO_3
          clear HO_6
          clear HB
          have HO_3 := n0_
          have HO_6 := n1_
          have HB := n2_
          clear n0_ n1_ n2_
          obtain ⟨Ao21, co21, eo21⟩ := Kd.R_slice HO_3.out
          (first | subst eo21 | (injection eo21 with f1_ f2_ f3_; have f4_ := f1_.symm; have f5_ := f3_.symm; clear f1_ f2_ f3_; subst f4_; subst f5_))
          have p396 : 0 ≤ (x7_2 : Int) := of_decide_eq_true (by first | (with_reducible assumption) | assumption)
          have q396 : x7_2 < (x3_1.length : Int) := of_decide_eq_true (by first | (with_reducible assumption) | assumption)
          obtain ⟨ad396, e396, hx396_0⟩ := Kd.at_int (Kd.R_reads' HO_3.out).2.2 x7_2 p396 q396
          cases e396
          replace p396 := eq_true p396
          replace q396 := eq_true q396
          have p397 : 0 ≤ (x7_2 : Int) := of_decide_eq_true (by first | (with_reducible assumption) | assumption)
          have q397 : x7_2 < (x3_1.length : Int) := of_decide_eq_true (by first | (with_reducible assumption) | assumption)
          obtain ⟨ad397, e397, hx397_0⟩ := Kd.at_int (Kd.R_reads' HO_3.out).2.2 x7_2 p397 q397
          obtain rfl : ad396 = ad397 := (by injection e397)
          replace p397 := eq_true p397
          replace q397 := eq_true q397
          have p398 : 0 ≤ (x7_2 : Int) := of_decide_eq_true (by first | (with_reducible assumption) | assumption)
          have q398 : x7_2 < (x3_1.length : Int) := of_decide_eq_true (by first | (with_reducible assumption) | assumption)
          obtain ⟨ad398, e398, hx398_0⟩ := Kd.at_int (Kd.R_reads' HO_3.out).2.2 x7_2 p398 q398
          obtain rfl : ad396 = ad398 := (by injection e398)
          replace p398 := eq_true p398
          replace q398 := eq_true q398
          have p399 : 0 ≤ (x7_2 : Int) := of_decide_eq_true (by first | (with_reducible assumption) | assumption)
          have q399 : x7_2 < (x3_1.length : Int) := of_decide_eq_true (by first | (with_reducible assumption) | assumption)
          obtain ⟨ad399, e399, hx399_0⟩ := Kd.at_int (Kd.R_reads' HO_3.out).2.2 x7_2 p399 q399
          obtain rfl : ad396 = ad399 := (by injection e399)
          replace p399 := eq_true p399
          replace q399 := eq_true q399
          refine start_ (n := 27) (S := fun w' => w'.cell? (ad396.add (x7_2).toNat) = some (.int .u32 (rd x3_1 x7_2)) ∧ w'.cell? (ad396.add (x7_2).toNat) = some (.int .u32 (rd x3_1 x7_2)) ∧ w'.cell? (ad396.add (x7_2).toNat) = some (.int .u32 (rd x3_1 x7_2)) ∧ w'.cell? (ad396.add (x7_2).toNat) = some (.int .u32 (rd x3_1 x7_2))) (ds := [25]) (bb 27 0) (by kernel_rfl) rfl rfl ⟨hx396_0, hx397_0, hx398_0, hx399_0⟩ (fun hHeld => ?_); refine with_tabW aircheckref02_Sum.tab11 aircheckref02_Sum.bits11 (fun HT_ HW_ => ?_)
          generalize wr.drew = w20 at HO_3 HO_6 HB hx396_0 hx397_0 hx398_0 hx399_0 hHeld ⊢
          refine pj_ (v := ?_) (a' := ?_) 0 (some 28) (bb 27 1) rfl rfl HT_ (by kernel_rfl) (fun _ _ _ h => h) (by rfl) ?_ ?_ ?_
          rotate_left; (intro w'; go_simp; with_reducible rfl); rotate_left; (simp only [Act.put, z1, z2, z3, i64_w, i32_w]; rfl)
          refine pj_ (v := ?_) (a' := ?_) 1 (some 29) (bb 27 3) rfl rfl HT_ (by kernel_rfl) (fun _ _ _ h => h) (by rfl) ?_ ?_ ?_
          rotate_left; (intro w'; go_simp; with_reducible rfl); rotate_left; (simp only [Act.put, z1, z2, z3, i64_w, i32_w]; rfl)
          refine pj_ (v := ?_) (a' := ?_) 2 (some 30) (bb 27 7) rfl rfl HT_ (by kernel_rfl) (fun _ _ _ h => h) (by rfl) ?_ ?_ ?_
          rotate_left; (intro w'; go_simp; with_reducible rfl); rotate_left; (simp only [Act.put, z1, z2, z3, i64_w, i32_w]; rfl)
          refine pj_ (v := ?_) (a' := ?_) 3 (some 31) (bb 27 15) rfl rfl HT_ (by kernel_rfl) (fun _ _ _ h => h) (by rfl) ?_ ?_ ?_
          rotate_left; (intro w'; go_simp; with_reducible rfl); rotate_left; (simp only [Act.put, z1, z2, z3, i64_w, i32_w]; rfl)
          refine pj_ (v := ?_) (a' := ?_) 7 (some 35) (bb 27 143) rfl rfl HT_ (by kernel_rfl) (fun _ _ _ h => h) (by rfl) ?_ ?_ ?_
          rotate_left; (intro w'; go_simp; with_reducible rfl); rotate_left; (simp only [Act.put, z1, z2, z3, i64_w, i32_w]; rfl)
          refine pj_ (v := ?_) (a' := ?_) 8 (some 36) (bb 27 399) rfl rfl HT_ (by kernel_rfl) (fun _ _ _ h => h) (by rfl) ?_ ?_ ?_
          rotate_left; (intro w'; go_simp; with_reducible rfl); rotate_left; (simp only [Act.put, z1, z2, z3, i64_w, i32_w]; rfl)
          refine pj_ (v := ?_) (a' := ?_) 9 (some 37) (bb 27 911) rfl rfl HT_ (by kernel_rfl) (fun _ _ _ h => h) (by rfl) ?_ ?_ ?_
          rotate_left; (intro w'; go_simp; with_reducible rfl); rotate_left; (simp only [Act.put, z1, z2, z3, i64_w, i32_w]; rfl)
          refine pj_ (v := ?_) (a' := ?_) 13 (some 41) (bb 27 9103) rfl rfl HT_ (by kernel_rfl) (fun _ _ _ h => h) (by rfl) ?_ ?_ ?_
          rotate_left; (intro w'; go_simp; with_reducible rfl); rotate_left; (simp only [Act.put, z1, z2, z3, i64_w, i32_w]; rfl)
          refine pj_ (v := ?_) (a' := ?_) 14 (some 42) (bb 27 25487) rfl rfl HT_ (by kernel_rfl) (fun _ _ _ h => h) (by rfl) ?_ ?_ ?_
          rotate_left; (intro w'; go_simp; with_reducible rfl); rotate_left; (simp only [Act.put, z1, z2, z3, i64_w, i32_w]; rfl)
          refine pj_ (v := ?_) (a' := ?_) 15 (some 43) (bb 27 58255) rfl rfl HT_ (by kernel_rfl) (fun _ _ _ h => h) (by rfl) ?_ ?_ ?_
          rotate_left; (intro w'; go_simp; with_reducible rfl); rotate_left; (simp only [Act.put, z1, z2, z3, i64_w, i32_w]; rfl)
          refine pj_ (v := ?_) (a' := ?_) 19 (some 47) (bb 27 582543) rfl rfl HT_ (by kernel_rfl) (fun _ _ _ h => h) (by rfl) ?_ ?_ ?_
          rotate_left; (intro w'; go_simp; with_reducible rfl); rotate_left; (simp only [Act.put, z1, z2, z3, i64_w, i32_w]; rfl)
          refine pj_ (v := ?_) (a' := ?_) 20 (some 48) (bb 27 1631119) rfl rfl HT_ (by kernel_rfl) (fun _ _ _ h => h) (by rfl) ?_ ?_ ?_
          rotate_left; (intro w'; go_simp; with_reducible rfl); rotate_left; (simp only [Act.put, z1, z2, z3, i64_w, i32_w]; rfl)
          refine pj_ (v := ?_) (a' := ?_) 21 (some 49) (bb 27 3728271) rfl rfl HT_ (by kernel_rfl) (fun _ _ _ h => h) (by rfl) ?_ ?_ ?_
          rotate_left; (intro w'; go_simp; with_reducible rfl); rotate_left; (simp only [Act.put, z1, z2, z3, i64_w, i32_w]; rfl)
          refine tj_ (v := ?_) (a' := ?_) 4 (some 32) (bb 27 3728287) rfl rfl HT_ HW_ (by kernel_rfl) (fun _ _ _ h => h) (by rfl) hHeld ?_ ?_ ?_
          rotate_left; (rintro w' ⟨s0, s1, s2, s3⟩; go_simp; with_reducible rfl); rotate_left; (simp only [Act.put, z1, z2, z3, i64_w, i32_w]; rfl)
          refine pj_ (v := ?_) (a' := ?_) 5 (some 33) (bb 27 3728319) rfl rfl HT_ (by kernel_rfl) (fun _ _ _ h => h) (by rfl) ?_ ?_ ?_
          rotate_left; (intro w'; go_simp; with_reducible rfl); rotate_left; (simp only [Act.put, z1, z2, z3, i64_w, i32_w]; rfl)
          refine pj_ (v := ?_) (a' := ?_) 6 (some 34) (bb 27 3728383) rfl rfl HT_ (by kernel_rfl) (fun _ _ _ h => h) (by rfl) ?_ ?_ ?_
          rotate_left; (intro w'; go_simp; with_reducible rfl); rotate_left; (simp only [Act.put, z1, z2, z3, i64_w, i32_w]; rfl)
          refine tj_ (v := ?_) (a' := ?_) 10 (some 38) (bb 27 3729407) rfl rfl HT_ HW_ (by kernel_rfl) (fun _ _ _ h => h) (by rfl) hHeld ?_ ?_ ?_
          rotate_left; (rintro w' ⟨s0, s1, s2, s3⟩; go_simp; with_reducible rfl); rotate_left; (simp only [Act.put, z1, z2, z3, i64_w, i32_w]; rfl)
          refine pj_ (v := ?_) (a' := ?_) 11 (some 39) (bb 27 3731455) rfl rfl HT_ (by kernel_rfl) (fun _ _ _ h => h) (by rfl) ?_ ?_ ?_
          rotate_left; (intro w'; go_simp; with_reducible rfl); rotate_left; (simp only [Act.put, z1, z2, z3, i64_w, i32_w]; rfl)
          refine pj_ (v := ?_) (a' := ?_) 12 (some 40) (bb 27 3735551) rfl rfl HT_ (by kernel_rfl) (fun _ _ _ h => h) (by rfl) ?_ ?_ ?_
          rotate_left; (intro w'; go_simp; with_reducible rfl); rotate_left; (simp only [Act.put, z1, z2, z3, i64_w, i32_w]; rfl)
          refine tj_ (v := ?_) (a' := ?_) 16 (some 44) (bb 27 3801087) rfl rfl HT_ HW_ (by kernel_rfl) (fun _ _ _ h => h) (by rfl) hHeld ?_ ?_ ?_
          rotate_left; (rintro w' ⟨s0, s1, s2, s3⟩; go_simp; with_reducible rfl); rotate_left; (simp only [Act.put, z1, z2, z3, i64_w, i32_w]; rfl)
          refine pj_ (v := ?_) (a' := ?_) 17 (some 45) (bb 27 3932159) rfl rfl HT_ (by kernel_rfl) (fun _ _ _ h => h) (by rfl) ?_ ?_ ?_
          rotate_left; (intro w'; go_simp; with_reducible rfl); rotate_left; (simp only [Act.put, z1, z2, z3, i64_w, i32_w]; rfl)
          refine pj_ (v := ?_) (a' := ?_) 18 (some 46) (bb 27 4194303) rfl rfl HT_ (by kernel_rfl) (fun _ _ _ h => h) (by rfl) ?_ ?_ ?_
          rotate_left; (intro w'; go_simp; with_reducible rfl); rotate_left; (simp only [Act.put, z1, z2, z3, i64_w, i32_w]; rfl)
          refine tj_ (v := ?_) (a' := ?_) 22 (some 50) (bb 27 8388607) rfl rfl HT_ HW_ (by kernel_rfl) (fun _ _ _ h => h) (by rfl) hHeld ?_ ?_ ?_
          rotate_left; (rintro w' ⟨s0, s1, s2, s3⟩; go_simp; with_reducible rfl); rotate_left; (simp only [Act.put, z1, z2, z3, i64_w, i32_w]; rfl)
          refine pj_ (v := ?_) (a' := ?_) 23 (some 51) (bb 27 16777215) rfl rfl HT_ (by kernel_rfl) (fun _ _ _ h => h) (by rfl) ?_ ?_ ?_
          rotate_left; (intro w'; go_simp; with_reducible rfl); rotate_left; (simp only [Act.put, z1, z2, z3, i64_w, i32_w]; rfl)
          refine one_ (i := 24) (N := some 52) (bb 27 33554431) rfl rfl (one_of HT_.out (by kernel_rfl)) (by decide) (fun K hK => ?_)
          refine Kd.R_lit_step (Kd.int .u8) _ 5 ?hg (N := 52) ?hd (xs := ([((rd x3_1 x7_2) / 16777216) % 256, ((rd x3_1 x7_2) / 65536) % 256, ((rd x3_1 x7_2) / 256) % 256, (rd x3_1 x7_2) % 256] : List Int)) (inner := [.int .u8 (((rd x3_1 x7_2) / 16777216) % 256), .int .u8 (((rd x3_1 x7_2) / 65536) % 256), .int .u8 (((rd x3_1 x7_2) / 256) % 256), .int .u8 ((rd x3_1 x7_2) % 256)]) (ok := fun _ => True) (okp := fun _ => True) ?hr ?hp (fun _ hk => hk) trivial (Below.refl _ _) (Nat.le_refl _) (by simp) ?_; (case hd => rfl); (case hg => rfl); (case hr => first | (go_simp; done) | (go_simp; rfl)); (case hp => exact (Reps.one (show Kd.M (Kd.int .u8) _ _ _ (((rd x3_1 x7_2) / 16777216) % 256) [.int .u8 (((rd x3_1 x7_2) / 16777216) % 256)] from rfl) (Reps.one (show Kd.M (Kd.int .u8) _ _ _ (((rd x3_1 x7_2) / 65536) % 256) [.int .u8 (((rd x3_1 x7_2) / 65536) % 256)] from rfl) (Reps.one (show Kd.M (Kd.int .u8) _ _ _ (((rd x3_1 x7_2) / 256) % 256) [.int .u8 (((rd x3_1 x7_2) / 256) % 256)] from rfl) (Reps.one (show Kd.M (Kd.int .u8) _ _ _ ((rd x3_1 x7_2) % 256) [.int .u8 ((rd x3_1 x7_2) % 256)] from rfl) (Reps.none _ _))))))
          intro v401 w22 ho23 hb hg_ hnew_
          have HS0_ := (hb.cell (World.block_lt_of_cell? _ _ (hHeld.1))).trans (hHeld.1)
          have HS1_ := (hb.cell (World.block_lt_of_cell? _ _ (hHeld.2.1))).trans (hHeld.2.1)
          have HS2_ := (hb.cell (World.block_lt_of_cell? _ _ (hHeld.2.2.1))).trans (hHeld.2.2.1)
          have HS3_ := (hb.cell (World.block_lt_of_cell? _ _ (hHeld.2.2.2))).trans (hHeld.2.2.2)
          clear hg_ hnew_
          (first | rw [← Ny400.out] at ho23 | (simp only [Int.reduceToNat] at ho23; rw [← Ny400.out] at ho23))
          have n0_ := Aside0.mk (Kd.R_below (by (with_reducible repeat (first | apply Kd.R_alloc | apply Kd.R_drewN | apply Kd.R_drew)); exact HO_3.out) hb)
          have n1_ := Aside0.mk (Kd.R_elder' (by (with_reducible repeat (first | apply Kd.R_alloc | apply Kd.R_drewN | apply Kd.R_drew)); exact HO_6.out) (Kd.R_base ho23) hb)
          have n2_ := Aside0.mk (Kd.R_lower (Kd.R_new' ho23 (Kd.R_lt (by (with_reducible repeat (first | apply Kd.R_alloc | apply Kd.R_drewN | apply Kd.R_drew)); exact HO_6.out))) (below_size (by repeat (first | (with_reducible first | exact HB.out | apply below_alloc | apply pw_below_drewN | apply below_drew1) | exact HB.out))))
          have n3_ := Aside0.mk (below_step (by repeat (first | (with_reducible first | exact HB.out | apply below_alloc | apply pw_below_drewN | apply below_drew1) | exact HB.out)) hb)
          clear HO_3
          clear HO_6
          clear HB
          have HO_3 := n0_
          have HO_6 := n1_
          have HO402 := n2_
          have HB := n3_
          clear n0_ n1_ n2_ n3_
          clear hb ho23
          obtain ⟨Ao25, co25, eo25⟩ := Kd.R_slice HO402.out
          (first | subst eo25 | (injection eo25 with f1_ f2_ f3_; have f4_ := f1_.symm; have f5_ := f3_.symm; clear f1_ f2_ f3_; subst f4_; subst f5_))
          refine hK.out _ _ ⟨HS0_, HS1_, HS2_, HS3_⟩ (fun hHeld => ?_)
          clear hK K
          refine norm_ (a' := ?_) ?_ ?_
          rotate_left
          ·show Act.put _ (some 52) _ = _
           simp only [Act.put, z1, z2, z3, i64_w, i32_w]
           rfl
          refine last_ (i := 25) (N := some 53) (bb 27 67108863) rfl rfl (one_of HT_.out (by kernel_rfl)) (by decide) (fun K hK => ?_)
          refine Kd.R_append_rows_step (Kd.int .u8) (w0 := w) w.heap.size (by rfl) (.tmp 28) (.tmp 52) 57 5 (.int .u8 0) 1 rfl Tryd.underlying57 info5 rfl (by decide) (by omega) u6 x6_2 y400 _ _ _ (fun k_ => some k_ ≠ (.slice Ao25 y400.length co25 : Value).ownBlock) (fun _ => False) rfl rfl ?aO ?aR (fun _ _ h => h) (fun _ h => h.elim) ?aF ?aB ?aS ?aL ?_
          (case aR => repeat (first | exact (Kd.R_reads' HO402.out).2.2 | (with_reducible refine Kd.C_alloc ?_ _) | (with_reducible refine Kd.C_drewN ?_ _) | (with_reducible refine Kd.C_drew ?_)))
          (case aB => exact (by repeat (first | (with_reducible first | exact HB.out | apply below_alloc | apply pw_below_drewN | apply below_drew1) | exact HB.out)))
          (case aF => exact (fun k_ hk => Kd.fresh' (Kd.R_lt (by (with_reducible repeat (first | apply Kd.R_alloc | apply Kd.R_drewN | apply Kd.R_drew)); exact HO402.out)) k_ hk))
          (case aO => exact (by (with_reducible repeat (first | apply Kd.R_alloc | apply Kd.R_drewN | apply Kd.R_drew)); exact Kd.R_mono HO_6.out (fun _ hk => hk.2)))
          (case aS => exact (below_size (by repeat (first | (with_reducible first | exact HB.out | apply below_alloc | apply pw_below_drewN | apply below_drew1) | exact HB.out))))
          (case aL => have := LMc19.out; omega)
          intro v404 w24 ho hb hg hat
          rw [← Ny403.out] at ho
          have n0_ := Aside0.mk (Kd.R_over' (by (with_reducible repeat (first | apply Kd.R_alloc | apply Kd.R_drewN | apply Kd.R_drew)); exact HO_3.out) (Kd.R_typed (by (with_reducible repeat (first | apply Kd.R_alloc | apply Kd.R_drewN | apply Kd.R_drew)); exact HO_6.out)) (by decide) hg)
          have n1_ := Aside0.mk (Kd.R_after (ok := (fun _ => True)) (by (with_reducible repeat (first | apply Kd.R_alloc | apply Kd.R_drewN | apply Kd.R_drew)); exact HO402.out) hg hat)
          have n2_ := Aside0.mk (hb)
          have n3_ := Aside0.mk (ho)
          clear HO_3
          clear HO402
          clear HB
          clear HO_6
          have HO_3 := n0_
          have HO402 := n1_
          have HB := n2_
          have HO405 := n3_
          clear n0_ n1_ n2_ n3_
          clear ho hb hg hat
          refine hK.out _ _ ?_
          clear hK K
          refine norm_ (a' := ?_) ?_ ?_
          rotate_left
          ·show Act.put _ (some 53) _ = _
           simp only [Act.put, z1, z2, z3, i64_w, i32_w]
           rfl
          refine pj_ (v := ?_) (a' := ?_) 26 (some 6) (bb 27 134217727) rfl rfl HT_ (by kernel_rfl) (fun _ _ _ h => h) (by rfl) ?_ ?_ ?_
          rotate_left; (intro w'; go_simp; with_reducible rfl); rotate_left; (simp only [Act.put, z1, z2, z3, i64_w, i32_w]; rfl)
          refine done_ (done_of HT_.out (by kernel_rfl)) ?_
          try go_wp2
          go_roundg k2
          case measure => have := HK1.out; have := HK2.out; omega
          case rel => exact ⟨(y403), (wrap64 (x7_2 + 1)), (by first | rfl | (simp; done) | (simp [*]; done)), H', ⟨by have := HK1.out; have := HK2.out; omega⟩, ⟨by (with_reducible repeat (first | apply Kd.R_alloc | apply Kd.R_drewN | apply Kd.R_drew)); exact HO_3.out⟩, ⟨by (with_reducible repeat (first | apply Kd.R_alloc | apply Kd.R_drewN | apply Kd.R_drew)); exact Kd.R_mono HO405.out (fun _ hk => trivial)⟩, ⟨by repeat (first | (with_reducible first | exact HB.out | apply below_alloc | apply pw_below_drewN | apply below_drew1) | exact HB.out)⟩⟩
         ·rw [if_neg c19] at H
          exact absurd H (by simp)
        ·rw [if_neg c18] at H
         exact absurd H (by simp)
       ·rw [if_neg c17] at H
        exact absurd H (by simp)
      ·rw [if_neg c16] at H
       have c16b0 : decide (x7_2 < 8) = false := decide_eq_false c16
       clear c16
       obtain rfl := Option.some.inj H
       have hcv26 := own_string (P := Tryd.prog) Tryd.underlying57 Tryd.underlying5 Tryd.underlying9 (Kd.own_of_R HO_6.out)
       go_wp2
       go_ret
       exact ⟨by first | rfl | (simp [errW_none, errW_some] <;> rfl) | (simp [*, errW_none, errW_some] <;> rfl), by repeat (first | (with_reducible first | exact HB.out | apply below_alloc | apply pw_below_drewN | apply below_drew1) | exact HB.out)⟩
end Go.Proofs.YtooogaogbffjfaaDoor.PB
end
section
namespace Go.Proofs.YtooogaogbffjfaaDoor.DigSpec
set_option maxRecDepth 100000
open Go.RowKit Go.Proofs.YtooogaogbffjfaaDoorW.PrintWords Go.Proofs.YtooogaogbffjfaaDoorW.PrintLast Go.Proofs.YtooogaogbffjfaaDoorW.PrintMore Go.Proofs.YtooogaogbffjfaaDoor.Ext
theorem w64 {x : Int} (h1 : -9223372036854775808 ≤ x) (h2 : x < 9223372036854775808) : wrap64 x = x := by unfold wrap64; omega
end Go.Proofs.YtooogaogbffjfaaDoor.DigSpec
end
section
namespace Go.Proofs.YtooogaogbffjfaaDoor.PB
open Go.Proofs.YtooogaogbffjfaaDoor.Ext
attribute [local go_sem] u32_signed u32_max
open Go.RowKit Go.Proofs.YtooogaogbffjfaaDoorW.PrintWords Go.Proofs.YtooogaogbffjfaaDoorW.PrintLast Go.Proofs.YtooogaogbffjfaaDoorW.PrintMore
attribute [local go_sem] max2_int min2_int max_two min_two max_three min_three max_four min_four   -- for this text's walks alone
set_option linter.unusedVariables false
set_option linter.unusedSimpArgs false
def aircheckref02_Chain.f (k : Nat) (a0 : ByteArray) (a1 : ByteArray) : Option (ByteArray) := if 1 + a0.size ≤ 9223372036854775807 then (if ((⟨#[2]⟩ : ByteArray) ++ a0).size + a1.size ≤ 9223372036854775807 then ((aircheckref02_Sum.f k (((⟨#[2]⟩ : ByteArray) ++ a0) ++ a1)).bind fun t406 => (some t406)) else (none)) else (none)
set_option maxHeartbeats 8000000 in
set_option maxRecDepth 100000 in
theorem aircheckref02_Chain.calls (k : Nat) (a0 : ByteArray) (a1 : ByteArray) (r : ByteArray) (w : World) (h : aircheckref02_Chain.f k a0 a1 = some r) :
  Calls Tryd.prog 16 #[.string a0, .string a1] w fun e w' => e = .returned (.string r) ∧ Below w.heap.size w w' := by
 have HB := Aside0.mk (Below.refl w.heap.size w)
 have H : (if 1 + a0.size ≤ 9223372036854775807 then (if ((⟨#[2]⟩ : ByteArray) ++ a0).size + a1.size ≤ 9223372036854775807 then ((aircheckref02_Sum.f k (((⟨#[2]⟩ : ByteArray) ++ a0) ++ a1)).bind fun t406 => (some t406)) else (none)) else (none)) = some r := h
 clear h
 by_cases c3 : 1 + a0.size ≤ 9223372036854775807
 ·rw [if_pos c3] at H
  have c3b0 := eq_true c3
  have c3b1 : decide (1 + a0.size ≤ 9223372036854775807) = true := decide_eq_true c3
  try have c3b2 : (9223372036854775807 < 1 + a0.size) = False := eq_false (Nat.not_lt.2 c3)
  obtain ⟨js4, hjs4⟩ : ∃ s_ : ByteArray, ((⟨#[2]⟩ : ByteArray) ++ a0) = s_ := ⟨_, rfl⟩
  replace H : (if js4.size + a1.size ≤ 9223372036854775807 then ((aircheckref02_Sum.f k (js4 ++ a1)).bind fun t406 => (some t406)) else (none)) = some r := by first | (rw [hjs4] at H; exact H) | (simp only [hjs4] at H ⊢; exact H) | exact H
  by_cases c5 : js4.size + a1.size ≤ 9223372036854775807
  ·rw [if_pos c5] at H
   have c5b0 := eq_true c5
   have c5b1 : decide (js4.size + a1.size ≤ 9223372036854775807) = true := decide_eq_true c5
   try have c5b2 : (9223372036854775807 < js4.size + a1.size) = False := eq_false (Nat.not_lt.2 c5)
   obtain ⟨js6, hjs6⟩ : ∃ s_ : ByteArray, (js4 ++ a1) = s_ := ⟨_, rfl⟩
   replace H : ((aircheckref02_Sum.f k js6).bind fun t406 => (some t406)) = some r := by first | (rw [hjs6] at H; exact H) | (simp only [hjs6] at H ⊢; exact H) | exact H
   replace H := Option.bind_eq_some_iff.mp H
   obtain ⟨t406, A70, H⟩ := H
   replace H : (some t406) = some r := H
   have A7 := Aside0.mk A70
   clear A70
   obtain rfl := Option.some.inj H
   go_enter Tryd.func16, Tryd.ntmps16
   go_wp2_with (first | ((with_reducible refine gate_callee (f := 13) rfl ?_); refine goesL_ (some 9) rfl rfl Tryd.func13 (by kernel_rfl) rfl #[.string js6] rfl (by (try simp only [List.map_toArray, List.map_cons, List.map_nil]); first | done | rfl | (simp only [List.length_drop, List.length_take]; rfl)) ?_; (with_reducible refine (aircheckref02_Sum.calls k js6 t406 _ A7.out).mono ?_); rintro e w8 ⟨rfl, hb⟩; refine ⟨_, rfl, ?_⟩; have n0_ := Aside0.mk (below_step (by repeat (first | (with_reducible first | exact HB.out | apply below_alloc | apply pw_below_drewN | apply below_drew1) | exact HB.out)) hb); clear HB; have HB := n0_; clear n0_; (try clear hb); (try clear hb2); (try clear hk); (try clear hi)))
   go_ret
   exact ⟨by first | rfl | (simp [errW_none, errW_some] <;> rfl) | (simp only [← hjs4, ← hjs6]; first | rfl | (simp [errW_none, errW_some] <;> rfl)) | (simp [*, errW_none, errW_some] <;> rfl), by repeat (first | (with_reducible first | exact HB.out | apply below_alloc | apply pw_below_drewN | apply below_drew1) | exact HB.out)⟩
  ·rw [if_neg c5] at H
   exact absurd H (by simp)
 ·rw [if_neg c3] at H
  exact absurd H (by simp)
end Go.Proofs.YtooogaogbffjfaaDoor.PB
end
section
namespace Go.Proofs.YtooogaogbffjfaaDoor.PB
open Go.Proofs.YtooogaogbffjfaaDoor.Ext
attribute [local go_sem] u32_signed u32_max
open Go.RowKit Go.Proofs.YtooogaogbffjfaaDoorW.PrintWords Go.Proofs.YtooogaogbffjfaaDoorW.PrintLast Go.Proofs.YtooogaogbffjfaaDoorW.PrintMore
attribute [local go_sem] max2_int min2_int max_two min_two max_three min_three max_four min_four   -- for this text's walks alone
set_option linter.unusedVariables false
set_option linter.unusedSimpArgs false
def aircheckref02_Head.l0 : Nat → List ByteArray → ByteArray → Int → Option (ByteArray)
 | 0, _, _, _ => none
 | k + 1, x0, x3, x4 => if x4 < (x0.length : Int) then (if 0 ≤ x4 then ((aircheckref02_Chain.f k x3 (rdOf ByteArray.empty x0 x4)).bind fun t411 => (aircheckref02_Head.l0 k x0 t411 (wrap64 (x4 + 1)))) else (none)) else (some x3)
def aircheckref02_Head.f (k : Nat) (l0 : List ByteArray) : Option (ByteArray) := if 32 ≤ 281474976710656 then (aircheckref02_Head.l0 k l0 (strOfNums (List.replicate 32 0)) 0) else (none)
set_option maxHeartbeats 8000000 in
set_option maxRecDepth 100000 in
theorem aircheckref02_Head.calls (k : Nat) (A0 : Option Addr) (c0 : Nat) (l0 : List ByteArray) (r : ByteArray) (w : World) (hr0 : Kd.C Kd.string w A0 l0.length l0) (hc0 : l0.length ≤ c0) (h : aircheckref02_Head.f k l0 = some r) :
  Calls Tryd.prog 12 #[.slice A0 l0.length c0] w fun e w' => e = .returned (.string r) ∧ Below w.heap.size w w' := by
 have HR0 := Aside0.mk hr0
 have HC0 := Aside0.mk hc0
 clear hr0 hc0
 have HB := Aside0.mk (Below.refl w.heap.size w)
 have H : (if 32 ≤ 281474976710656 then (aircheckref02_Head.l0 k l0 (strOfNums (List.replicate 32 0)) 0) else (none)) = some r := h
 clear h
 by_cases c2 : 32 ≤ 281474976710656
 ·rw [if_pos c2] at H
  have c2b0 := eq_true c2
  have c2b1 : decide (32 ≤ 281474976710656) = true := decide_eq_true c2
  clear c2
  obtain ⟨y407, hy407⟩ : ∃ y_ : List Int, y_ = (List.replicate 32 0) := ⟨_, rfl⟩
  replace H : (aircheckref02_Head.l0 k l0 (strOfNums y407) 0) = some r := by first | (rw [hy407]; with_reducible exact H) | (have H2_ := (Option.bind_some _ _).symm.trans H; rw [hy407]; with_reducible exact H2_) | (have H2_ := (Option.bind_some _ _).symm.trans H; with_reducible exact H2_) | with_reducible exact H | (rw [hy407]; exact H) | exact H
  have Ny407 := Aside0.mk hy407
  clear hy407
  have H' := Aside0.mk H
  clear H
  go_enter Tryd.func12, Tryd.ntmps12
  go_wp2_with (first | ((with_reducible refine gate_dst (N := 5) rfl ?_); refine Kd.R_make (Kd.int .u8) _ 5 rfl (N := 5) rfl 57 _ _ rfl 32 rfl rfl Tryd.underlying57 (.int .u8 0) 1 info5 rfl (by decide) (by omega) 0 (ok := fun _ => True) (okp := fun _ => True) rfl (fun _ hk => hk) trivial (by omega) (by omega) (Below.refl _ _) (Nat.le_refl _) ?_; intro v408 w3 ho4 hb hg_ hnew_; clear hg_ hnew_; (first | rw [← Ny407.out] at ho4 | (simp only [Int.reduceToNat] at ho4; rw [← Ny407.out] at ho4)); have n0_ := Aside0.mk (Kd.R_lower ho4 (below_size (by repeat (first | (with_reducible first | exact HB.out | apply below_alloc | apply pw_below_drewN | apply below_drew1) | exact HB.out)))); have n1_ := Aside0.mk (below_step (by repeat (first | (with_reducible first | exact HB.out | apply below_alloc | apply pw_below_drewN | apply below_drew1) | exact HB.out)) hb); clear HB; have HO409 := n0_; have HB := n1_; clear n0_ n1_; clear hb ho4; have hcv5 := own_string (P := Tryd.prog) Tryd.underlying57 Tryd.underlying5 Tryd.underlying9 (Kd.own_of_R HO409.out)))
  go_loopg [3, 4] k (fun kq v3 v4 w' => ∃ (x3_1 : ByteArray) (x4_1 : Int), v3 = .string x3_1 ∧ v4 = .int .i64 x4_1 ∧ Aside0 (aircheckref02_Head.l0 kq l0 x3_1 x4_1 = some r) ∧ Aside0 (kq ≤ k) ∧ Aside0 (Below w.heap.size w w'))
  case atStart => exact ⟨(strOfNums y407), (0), (by first | rfl | (simp; done) | (simp [*]; done)), (by first | rfl | (simp; done) | (simp [*]; done)), H', ⟨Nat.le_refl _⟩, ⟨by repeat (first | (with_reducible first | exact HB.out | apply below_alloc | apply pw_below_drewN | apply below_drew1) | exact HB.out)⟩⟩
  case round =>
   clear H'
   try clear c1
   try clear c2
   try clear c2b0
   try clear c2b1
   try clear p2
   try clear hcv5
   obtain ⟨x3_1, x4_1, rfl, rfl, HA, HK1, HB⟩ := hrel
   cases gk with
   | zero => exact absurd HA.out (by simp [aircheckref02_Head.l0])
   | succ k1 =>
    have H := HA.out
    clear HA
    simp only [aircheckref02_Head.l0] at H
    by_cases c6 : x4_1 < (l0.length : Int)
    ·rw [if_pos c6] at H
     have c6b0 : decide (x4_1 < (l0.length : Int)) = true := decide_eq_true c6
     clear c6
     by_cases c7 : 0 ≤ x4_1
     ·rw [if_pos c7] at H
      have c7b0 : decide (0 ≤ x4_1) = true := decide_eq_true c7
      clear c7
      replace H := Option.bind_eq_some_iff.mp H
      obtain ⟨t411, A80, H⟩ := H
      replace H : (aircheckref02_Head.l0 k1 l0 t411 (wrap64 (x4_1 + 1))) = some r := H
      have A8 := Aside0.mk A80
      clear A80
      have H' := Aside0.mk H
      clear H
      have p410 : 0 ≤ (x4_1 : Int) := of_decide_eq_true (by first | (with_reducible assumption) | assumption)
      have q410 : x4_1 < (l0.length : Int) := of_decide_eq_true (by first | (with_reducible assumption) | assumption)
      obtain ⟨ad410, e410, hx410_0⟩ := Kd.at_string HR0.out x4_1 p410 q410
      cases e410
      replace hx410_0 := (HB.out.cell (World.block_lt_of_cell? w _ hx410_0)).trans hx410_0
      replace p410 := eq_true p410
      replace q410 := eq_true q410
      go_wp2_with (first | ((with_reducible refine gate_callee (f := 16) rfl ?_); refine goesL_ (some 18) rfl rfl Tryd.func16 (by kernel_rfl) rfl #[.string x3_1, .string (rdOf ByteArray.empty l0 x4_1)] rfl (by (try simp only [List.map_toArray, List.map_cons, List.map_nil]); first | done | rfl | (simp only [List.length_drop, List.length_take]; rfl)) ?_; (with_reducible refine (aircheckref02_Chain.calls k1 x3_1 (rdOf ByteArray.empty l0 x4_1) t411 _ A8.out).mono ?_); rintro e w9 ⟨rfl, hb⟩; refine ⟨_, rfl, ?_⟩; have n0_ := Aside0.mk (below_step (by repeat (first | (with_reducible first | exact HB.out | apply below_alloc | apply pw_below_drewN | apply below_drew1) | exact HB.out)) hb); clear HB; have HB := n0_; clear n0_; (try clear hb); (try clear hb2); (try clear hk); (try clear hi)))
      go_roundg k1
      case measure => have := HK1.out; omega
      case rel => exact ⟨(t411), (wrap64 (x4_1 + 1)), (by first | rfl | (simp; done) | (simp [*]; done)), (by first | rfl | (simp; done) | (simp [*]; done)), H', ⟨by have := HK1.out; omega⟩, ⟨by repeat (first | (with_reducible first | exact HB.out | apply below_alloc | apply pw_below_drewN | apply below_drew1) | exact HB.out)⟩⟩
     ·rw [if_neg c7] at H
      exact absurd H (by simp)
    ·rw [if_neg c6] at H
     have c6b0 : decide (x4_1 < (l0.length : Int)) = false := decide_eq_false c6
     clear c6
     obtain rfl := Option.some.inj H
     go_wp2
     go_ret
     exact ⟨by first | rfl | (simp [errW_none, errW_some] <;> rfl) | (simp [*, errW_none, errW_some] <;> rfl), by repeat (first | (with_reducible first | exact HB.out | apply below_alloc | apply pw_below_drewN | apply below_drew1) | exact HB.out)⟩
 ·rw [if_neg c2] at H
  exact absurd H (by simp)
end Go.Proofs.YtooogaogbffjfaaDoor.PB
end
section
namespace Go.Proofs.YtooogaogbffjfaaDoor.PB
open Go.Proofs.YtooogaogbffjfaaDoor.Ext
attribute [local go_sem] u32_signed u32_max
open Go.RowKit Go.Proofs.YtooogaogbffjfaaDoorW.PrintWords Go.Proofs.YtooogaogbffjfaaDoorW.PrintLast Go.Proofs.YtooogaogbffjfaaDoorW.PrintMore
attribute [local go_sem] max2_int min2_int max_two min_two max_three min_three max_four min_four   -- for this text's walks alone
set_option linter.unusedVariables false
set_option linter.unusedSimpArgs false
def aircheckref01_zigzag.f (a0 : Int) : Option (Int) := if a0 < 0 then (some (IntKind.u64.wrap ((IntKind.u64.wrap ((IntKind.u64.wrap (wrap64 (-a0))) * 2)) - 1))) else (some (IntKind.u64.wrap ((IntKind.u64.wrap (a0)) * 2)))
set_option maxHeartbeats 8000000 in
set_option maxRecDepth 100000 in
theorem aircheckref01_zigzag.calls (a0 : Int) (r : Int) (w : World) (h : aircheckref01_zigzag.f a0 = some r) :
  Calls Tryd.prog 49 #[.int .i64 a0] w fun e w' => e = .returned (.int .u64 r) ∧ Drawn0 w w' := by
 have H : (if a0 < 0 then (some (IntKind.u64.wrap ((IntKind.u64.wrap ((IntKind.u64.wrap (wrap64 (-a0))) * 2)) - 1))) else (some (IntKind.u64.wrap ((IntKind.u64.wrap (a0)) * 2)))) = some r := h
 clear h
 by_cases c2 : a0 < 0
 ·rw [if_pos c2] at H
  have c2b0 : decide (a0 < 0) = true := decide_eq_true c2
  clear c2
  obtain rfl := Option.some.inj H
  go_enter Tryd.func49, Tryd.ntmps49
  go_wp2
  go_ret
  exact ⟨by first | rfl | (simp; done) | (simp [*]; done), by repeat (first | exact Drawn0.refl _ | apply Drawn0.step)⟩
 ·rw [if_neg c2] at H
  have c2b0 : decide (a0 < 0) = false := decide_eq_false c2
  clear c2
  obtain rfl := Option.some.inj H
  go_enter Tryd.func49, Tryd.ntmps49
  go_wp2
  go_ret
  exact ⟨by first | rfl | (simp; done) | (simp [*]; done), by repeat (first | exact Drawn0.refl _ | apply Drawn0.step)⟩
end Go.Proofs.YtooogaogbffjfaaDoor.PB
end
section
namespace Go.Proofs.YtooogaogbffjfaaDoor.PB
open Go.Proofs.YtooogaogbffjfaaDoor.Ext
attribute [local go_sem] u32_signed u32_max
open Go.RowKit Go.Proofs.YtooogaogbffjfaaDoorW.PrintWords Go.Proofs.YtooogaogbffjfaaDoorW.PrintLast Go.Proofs.YtooogaogbffjfaaDoorW.PrintMore
attribute [local go_sem] max2_int min2_int max_two min_two max_three min_three max_four min_four   -- for this text's walks alone
set_option linter.unusedVariables false
set_option linter.unusedSimpArgs false
mutual
def aircheckref01_PutInt.j0 : Nat → Int → Bool → Option (ByteArray × Int)
 | 0, _, _ => none
 | k + 1, x0, x11 => if x11 = true then (some ((⟨#[]⟩ : ByteArray), 10)) else ((aircheckref01_zigzag.f x0).bind fun t412 => (aircheckref01_PutInt.l0 k t412 ([] : List Int)))
def aircheckref01_PutInt.l0 : Nat → Int → List Int → Option (ByteArray × Int)
 | 0, _, _ => none
 | k + 1, x4, x5 => if x4 ≥ 128 then (if x5.length < 140737488355328 then (aircheckref01_PutInt.l0 k (IntKind.u64.wrap (Int.tdiv x4 128)) (x5 ++ [(IntKind.u64.wrap ((Int.tmod x4 128) + 128)) % 256])) else (none)) else (if x5.length < 140737488355328 then (some (strOfNums (x5 ++ [(x4) % 256]), 0)) else (none))
end
def aircheckref01_PutInt.f (k : Nat) (a0 : Int) : Option (ByteArray × Int) := if a0 < (-4611686018427387903) then (aircheckref01_PutInt.j0 k a0 true) else (aircheckref01_PutInt.j0 k a0 (decide (a0 > 4611686018427387903)))
set_option maxHeartbeats 8000000 in
set_option maxRecDepth 100000 in
theorem aircheckref01_PutInt.calls (k : Nat) (a0 : Int) (r1 : ByteArray) (r2 : Int) (w : World) (h : aircheckref01_PutInt.f k a0 = some (r1, r2)) :
  Calls Tryd.prog 28 #[.int .i64 a0] w fun e w' => e = .returned (.tuple #[.string r1, .int .i64 r2]) ∧ Below w.heap.size w w' := by
 have HB := Aside0.mk (Below.refl w.heap.size w)
 have H : (if a0 < (-4611686018427387903) then (aircheckref01_PutInt.j0 k a0 true) else (aircheckref01_PutInt.j0 k a0 (decide (a0 > 4611686018427387903)))) = some (r1, r2) := h
 clear h
 have HC2 := Aside0.mk H
 clear H
 go_enter Tryd.func28, Tryd.ntmps28
 go_upto_region 1 with (fail)
 go_cut [11] (fun v11 wc => ∃ (kq : Nat) (x11_1 : Bool), v11 = .bool x11_1 ∧ Aside0 (aircheckref01_PutInt.j0 kq a0 x11_1 = some (r1, r2)) ∧ Aside0 (kq ≤ k) ∧ Aside0 (Below w.heap.size w wc))
 case first =>
  have H := HC2.out
  clear HC2
  by_cases c3 : a0 < (-4611686018427387903)
  ·rw [if_pos c3] at H
   have c3b0 : decide (a0 < (-4611686018427387903)) = true := decide_eq_true c3
   clear c3
   (first | rw [c3b0] | (simp only [i64_w, i32_w]; rw [c3b0]) | skip)
   have H' := Aside0.mk H
   clear H
   go_wp2
   go_meet
   case rel => exact ⟨_, (true), (by first | rfl | (simp; done) | (simp [*]; done)), H', ⟨by first | omega | exact Nat.le_refl _⟩, ⟨by repeat (first | (with_reducible first | exact HB.out | apply below_alloc | apply pw_below_drewN | apply below_drew1) | exact HB.out)⟩⟩
  ·rw [if_neg c3] at H
   have c3b0 : decide (a0 < (-4611686018427387903)) = false := decide_eq_false c3
   clear c3
   (first | rw [c3b0] | (simp only [i64_w, i32_w]; rw [c3b0]) | skip)
   have H' := Aside0.mk H
   clear H
   go_wp2
   go_meet
   case rel => exact ⟨_, (decide (a0 > 4611686018427387903)), (by first | rfl | (simp; done) | (simp [*]; done)), H', ⟨by first | omega | exact Nat.le_refl _⟩, ⟨by repeat (first | (with_reducible first | exact HB.out | apply below_alloc | apply pw_below_drewN | apply below_drew1) | exact HB.out)⟩⟩
 case rest =>
  clear HC2
  try clear c2
  try clear p2
  try clear c3
  try clear c3b0
  obtain ⟨kq, x11_1, rfl, HA, HJ1, HB⟩ := hcut
  cases kq with
  | zero => exact absurd HA.out (by simp [aircheckref01_PutInt.j0])
  | succ kj1 =>
   have H := HA.out
   clear HA
   simp only [aircheckref01_PutInt.j0] at H
   by_cases c4 : x11_1 = true
   ·subst c4
    have H1 : (some ((⟨#[]⟩ : ByteArray), 10)) = some (r1, r2) := by rw [if_pos rfl] at H; exact H
    clear H
    have H := H1
    clear H1
    simp only [Option.some.injEq, Prod.mk.injEq] at H
    obtain ⟨rfl, rfl⟩ := H
    go_wp2
    go_ret2
    exact ⟨by first | rfl | (simp [errW_none, errW_some] <;> rfl) | (simp [*, errW_none, errW_some] <;> rfl), by repeat (first | (with_reducible first | exact HB.out | apply below_alloc | apply pw_below_drewN | apply below_drew1) | exact HB.out)⟩
   ·replace c4 := Bool.eq_false_iff.mpr c4
    subst c4
    have H1 : ((aircheckref01_zigzag.f a0).bind fun t412 => (aircheckref01_PutInt.l0 kj1 t412 ([] : List Int))) = some (r1, r2) := by rw [if_neg (show ¬ (false = true) by decide)] at H; exact H
    clear H
    have H := H1
    clear H1
    replace H := Option.bind_eq_some_iff.mp H
    obtain ⟨t412, A50, H⟩ := H
    replace H : (aircheckref01_PutInt.l0 kj1 t412 ([] : List Int)) = some (r1, r2) := H
    have A5 := Aside0.mk A50
    clear A50
    have H' := Aside0.mk H
    clear H
    go_wp2_with (first | ((with_reducible refine gate_callee (f := 49) rfl ?_); refine goesL_ (some 13) rfl rfl Tryd.func49 (by kernel_rfl) rfl #[.int .i64 a0] rfl (by (try simp only [List.map_toArray, List.map_cons, List.map_nil]); first | done | rfl | (simp only [List.length_drop, List.length_take]; rfl)) ?_; (with_reducible refine (aircheckref01_zigzag.calls a0 t412 _ A5.out).mono ?_); rintro e w' ⟨rfl, ⟨nd, rfl⟩⟩; refine ⟨_, rfl, ?_⟩))
    go_loopg [4, 5] kj1 (fun kq v4 v5 w' => ∃ (x4_2 : Int) (x5_2 : List Int), v4 = .int .u64 x4_2 ∧ Aside0 (aircheckref01_PutInt.l0 kq x4_2 x5_2 = some (r1, r2)) ∧ Aside0 (kq ≤ kj1) ∧ Aside0 (Kd.R (Kd.int .u8) 5 w' w.heap.size (fun _ => True) v5 x5_2) ∧ Aside0 (Below w.heap.size w w'))
    case atStart => exact ⟨(t412), (([] : List Int)), (by first | rfl | (simp; done) | (simp [*]; done)), H', ⟨Nat.le_refl _⟩, ⟨by first | exact Kd.R_nil _ _ _ _ _ | exact Kd.N_nil _ _ _ _ _ | exact Kd.V_nil _ _ _ _ _ | exact Kd.Q_nil _ _ _ _ _ | exact Kd.S_nil _ _ _ _ _⟩, ⟨by repeat (first | (with_reducible first | exact HB.out | apply below_alloc | apply pw_below_drewN | apply below_drew1) | exact HB.out)⟩⟩
    case round =>
     clear H'
     try clear c2
     try clear p2
     try clear c3
     try clear c3b0
     try clear c4
     try clear p2
     obtain ⟨x4_2, x5_2, rfl, HA, HK2, HO_5, HB⟩ := hrel
     cases gk with
     | zero => exact absurd HA.out (by simp [aircheckref01_PutInt.l0])
     | succ k2 =>
      have H := HA.out
      clear HA
      simp only [aircheckref01_PutInt.l0] at H
      by_cases c6 : x4_2 ≥ 128
      ·rw [if_pos c6] at H
       have c6b0 : decide (128 ≤ x4_2) = true := decide_eq_true c6
       clear c6
       by_cases c7 : x5_2.length < 140737488355328
       ·rw [if_pos c7] at H
        have LMc7 := Aside0.mk c7
        clear c7
        obtain ⟨y413, hy413⟩ : ∃ y_ : List Int, y_ = (x5_2 ++ [(IntKind.u64.wrap ((Int.tmod x4_2 128) + 128)) % 256]) := ⟨_, rfl⟩
        replace H : (aircheckref01_PutInt.l0 k2 (IntKind.u64.wrap (Int.tdiv x4_2 128)) y413) = some (r1, r2) := by first | (rw [hy413]; with_reducible exact H) | (have H2_ := (Option.bind_some _ _).symm.trans H; rw [hy413]; with_reducible exact H2_) | (have H2_ := (Option.bind_some _ _).symm.trans H; with_reducible exact H2_) | with_reducible exact H | (rw [hy413]; exact H) | exact H
        have Ny413 := Aside0.mk hy413
        clear hy413
        have H' := Aside0.mk H
        clear H
        go_wp2_with (first | ((with_reducible refine gate_builtin (b := .append) (xs := #[.tmp 16, .tmp 21]) rfl ?_); at_builtin; refine Kd.R_append (Kd.int .u8) (w0 := w) w.heap.size rfl (.tmp 16) (.tmp 21) 57 5 (.int .u8 0) 1 rfl Tryd.underlying57 info5 rfl (by decide) (by omega) u5 x5_2 ((IntKind.u64.wrap ((Int.tmod x4_2 128) + 128)) % 256) [.int .u8 ((IntKind.u64.wrap ((Int.tmod x4_2 128) + 128)) % 256)] (fun _ => True) (fun _ => False) rfl rfl ?aP (fun _ hk => hk.elim) ?aF ?aO ?aB ?aS ?aL ?_; (case aP => exact rfl); (case aB => exact (by repeat (first | (with_reducible first | exact HB.out | apply below_alloc | apply pw_below_drewN | apply below_drew1) | exact HB.out))); (case aF => exact (fun _ _ => trivial)); (case aO => exact (by (with_reducible repeat (first | apply Kd.R_alloc | apply Kd.R_drewN | apply Kd.R_drew)); exact HO_5.out)); (case aS => exact (below_size (by repeat (first | (with_reducible first | exact HB.out | apply below_alloc | apply pw_below_drewN | apply below_drew1) | exact HB.out)))); (case aL => have := LMc7.out; omega); intro v414 w8 ho hb hg hat; rw [← Ny413.out] at ho; have n0_ := Aside0.mk (hb); have n1_ := Aside0.mk (ho); clear HB; clear HO_5; have HB := n0_; have HO415 := n1_; clear n0_ n1_; clear ho hb hg hat))
        go_roundg k2
        case measure => have := HJ1.out; have := HK2.out; omega
        case rel => exact ⟨(IntKind.u64.wrap (Int.tdiv x4_2 128)), (y413), (by first | rfl | (simp; done) | (simp [*]; done)), H', ⟨by have := HJ1.out; have := HK2.out; omega⟩, ⟨by (with_reducible repeat (first | apply Kd.R_alloc | apply Kd.R_drewN | apply Kd.R_drew)); exact HO415.out⟩, ⟨by repeat (first | (with_reducible first | exact HB.out | apply below_alloc | apply pw_below_drewN | apply below_drew1) | exact HB.out)⟩⟩
       ·rw [if_neg c7] at H
        exact absurd H (by simp)
      ·rw [if_neg c6] at H
       have c6b0 : decide (128 ≤ x4_2) = false := decide_eq_false c6
       clear c6
       by_cases c9 : x5_2.length < 140737488355328
       ·rw [if_pos c9] at H
        have LMc9 := Aside0.mk c9
        clear c9
        obtain ⟨y416, hy416⟩ : ∃ y_ : List Int, y_ = (x5_2 ++ [(x4_2) % 256]) := ⟨_, rfl⟩
        replace H : (some (strOfNums y416, 0)) = some (r1, r2) := by first | (rw [hy416]; with_reducible exact H) | (have H2_ := (Option.bind_some _ _).symm.trans H; rw [hy416]; with_reducible exact H2_) | (have H2_ := (Option.bind_some _ _).symm.trans H; with_reducible exact H2_) | with_reducible exact H | (rw [hy416]; exact H) | exact H
        have Ny416 := Aside0.mk hy416
        clear hy416
        simp only [Option.some.injEq, Prod.mk.injEq] at H
        obtain ⟨rfl, rfl⟩ := H
        go_wp2_with (first | ((with_reducible refine gate_builtin (b := .append) (xs := #[.tmp 25, .tmp 28]) rfl ?_); at_builtin; refine Kd.R_append (Kd.int .u8) (w0 := w) w.heap.size rfl (.tmp 25) (.tmp 28) 57 5 (.int .u8 0) 1 rfl Tryd.underlying57 info5 rfl (by decide) (by omega) u5 x5_2 ((x4_2) % 256) [.int .u8 ((x4_2) % 256)] (fun _ => True) (fun _ => False) rfl rfl ?aP (fun _ hk => hk.elim) ?aF ?aO ?aB ?aS ?aL ?_; (case aP => exact rfl); (case aB => exact (by repeat (first | (with_reducible first | exact HB.out | apply below_alloc | apply pw_below_drewN | apply below_drew1) | exact HB.out))); (case aF => exact (fun _ _ => trivial)); (case aO => exact (by (with_reducible repeat (first | apply Kd.R_alloc | apply Kd.R_drewN | apply Kd.R_drew)); exact HO_5.out)); (case aS => exact (below_size (by repeat (first | (with_reducible first | exact HB.out | apply below_alloc | apply pw_below_drewN | apply below_drew1) | exact HB.out)))); (case aL => have := LMc9.out; omega); intro v417 w10 ho hb hg hat; rw [← Ny416.out] at ho; have n0_ := Aside0.mk (hb); have n1_ := Aside0.mk (ho); clear HB; clear HO_5; have HB := n0_; have HO418 := n1_; clear n0_ n1_; clear ho hb hg hat; have hcv11 := own_string (P := Tryd.prog) Tryd.underlying57 Tryd.underlying5 Tryd.underlying9 (Kd.own_of_R HO418.out)))
        go_ret2
        exact ⟨by first | rfl | (simp [errW_none, errW_some] <;> rfl) | (simp [*, errW_none, errW_some] <;> rfl), by repeat (first | (with_reducible first | exact HB.out | apply below_alloc | apply pw_below_drewN | apply below_drew1) | exact HB.out)⟩
       ·rw [if_neg c9] at H
        exact absurd H (by simp)
end Go.Proofs.YtooogaogbffjfaaDoor.PB
end
section
set_option linter.unusedVariables false
set_option linter.unusedSimpArgs false
namespace Go.Proofs.YtooogaogbffjfaaDoor.Ext
set_option maxRecDepth 100000
open Go.RowKit Go.Shelf Go.Proofs.YtooogaogbffjfaaDoorW.PrintWords Go.Proofs.YtooogaogbffjfaaDoorW.PrintLast Go.Proofs.YtooogaogbffjfaaDoorW.PrintMore Go.Proofs.YtooogaogbffjfaaDoor.PK Go.Proofs.YtooogaogbffjfaaDoor.Bk Go.Proofs.YtooogaogbffjfaaDoor.PB
attribute [local go_sem] Oper.semAt_some
theorem gb_cells (w : World) (acc clo : Int) (A : Option Addr) (n c : Nat) (o : Obj) {w2 : World} (hb : Below ((w.alloc (.cells #[.int .i64 acc, .slice A n c, .int .i64 clo] 24)).alloc o).heap.size ((w.alloc (.cells #[.int .i64 acc, .slice A n c, .int .i64 clo] 24)).alloc o) w2) : Blk w2 w.heap.size 24 [.int .i64 acc, .slice A n c, .int .i64 clo] := ((Blk.newA w _ _ _ rfl).alloc o).belowS hb
set_option maxRecDepth 100000 in
set_option maxHeartbeats 4000000 in
theorem rDisp_err (acc clo : Int) (A : Option Addr) (n c : Nat) (ps : List S27) (hl : ps.length = n) (i day amount : Int) (hc2 : ¬ ((0 ≤ i ∧ i < (n : Int)) ∧ (0 ≤ amount ∧ amount ≤ 1000000000000))) (w : World) :
    Calls Tryd.prog 31 #[.agg #[.int .i64 acc, .slice A n c, .int .i64 clo], .int .i64 i, .int .i64 day, .int .i64 amount] w fun e w' => e = .returned (.tuple #[.agg #[.int .i64 0, .slice none 0 0, .int .i64 0], .int .i64 240]) ∧ Below w.heap.size w w' := by
  have hR := res_blk1 w (.cells #[.int .i64 acc, .slice A n c, .int .i64 clo] 24)
  have hb2 := below2 w (.cells #[.int .i64 acc, .slice A n c, .int .i64 clo] 24) (.cells #[.int .i64 0, .slice none 0 0, .int .i64 0] 24)
  have HR := Lib.hid hR
  have HB2 := Lib.hid hb2
  have HG := Lib.hid (gb_cells w acc clo A n c (.cells #[.int .i64 0, .slice none 0 0, .int .i64 0] 24) (Below.refl _ _))
  clear hR hb2
  by_cases h0 : i < 0
  · have d0 : decide (i < 0) = true := decide_eq_true h0
    clear hc2
    go_enter Tryd.func31, Tryd.ntmps31
    go_wp2
    refine bodyPost_ret (results_list (rs := [.cell 8 24, .tmp 9]) rfl (by simp) (.cell _ _ _ (0, 0) _ rfl HR.out Tryd.underlying24 rfl (by kernel_rfl) (.tmp .nil))) rfl ?_
    exact ⟨rfl, HB2.out⟩
  · have d0 : decide (i < 0) = false := decide_eq_false h0
    have g1 := HG.out.cell (j := 1) rfl
    by_cases h1 : (n : Int) ≤ i
    · have d1 : decide ((n : Int) ≤ i) = true := decide_eq_true h1
      clear hc2
      go_enter Tryd.func31, Tryd.ntmps31
      go_wp2
      refine bodyPost_ret (results_list (rs := [.cell 8 24, .tmp 9]) rfl (by simp) (.cell _ _ _ (0, 0) _ rfl HR.out Tryd.underlying24 rfl (by kernel_rfl) (.tmp .nil))) rfl ?_
      exact ⟨rfl, HB2.out⟩
    · have d1 : decide ((n : Int) ≤ i) = false := decide_eq_false h1
      have ha : decide (0 ≤ amount ∧ amount ≤ 1000000000000) = false := decide_eq_false fun h => hc2 ⟨by omega, h⟩
      have HA := Lib.hid ha
      clear hc2 ha
      go_enter Tryd.func31, Tryd.ntmps31
      go_wp2_with (first | (go_at_call 50; (with_reducible refine (rin_walk amount 0 1000000000000 false HA.out _).mono ?_); rintro e w2 ⟨rfl, hd2⟩; have hR := HR.out.belowS hd2.below; obtain ⟨r1, r2, r3, r4, r5, r6, r7, r8, r9, r10⟩ := res_facts hR (.int .i64 0) (.slice none 0 0) (.int .i64 0)) | fail)
      refine bodyPost_ret (results_list (rs := [.cell 8 24, .tmp 9]) rfl (by simp) (.cell _ _ _ (0, 0) _ rfl r10 Tryd.underlying24 rfl (by kernel_rfl) (.tmp .nil))) rfl ?_
      exact ⟨rfl, res_below (Below.trans HB2.out (hd2.below.mono HB2.out.size)) (by omega) _ _ _⟩
theorem kr_under {w : World} {base : Nat} {v : Value} {xs : List S27} (h : Kd.R k27 27 w base (fun _ => True) v xs) {a : Addr} (ha : a.block < base) (u : Value) : Kd.R k27 27 (w.setCell a u) base (fun _ => True) v xs :=
  Kd.R_mono (Kd.R_far (Kd.R_bound h) (fun k hk e => by have := hk.2.1; omega) u) (fun _ hk => hk.1)
theorem rdisp_mem (w w2 : World) (acc clo : Int) (A : Option Addr) (n c : Nat) (ps : List S27) (p : S27) (i day : Int) (hG : Blk w2 w.heap.size 24 [.int .i64 acc, .slice A n c, .int .i64 clo]) (hR : Blk w2 (w.heap.size + 1) 24 [.int .i64 0, .slice none 0 0, .int .i64 0]) (hB : Below w.heap.size w w2) (hC : Kd.C k27 w2 A n ps) {w5 : World} (h5 : (w2.alloc (.cells #[.int .i64 p.f0, .int .i64 p.f1, .int .i64 p.f2, .int .i64 p.f3, .int .i64 p.f4, .int .i64 p.f5, .int .i64 p.f6] 27)).alloc (.cells #[.int .i64 3, .int .i64 day, .int .i64 p.f3, .int .i64 p.f2, .int .i64 p.f4, .int .i64 p.f5, .int .i64 i] 27) = w5) :
    Blk w5 w.heap.size 24 [.int .i64 acc, .slice A n c, .int .i64 clo] ∧ Blk w5 (w.heap.size + 1) 24 [.int .i64 0, .slice none 0 0, .int .i64 0] ∧ Blk w5 w2.heap.size 27 (pcells p) ∧ Blk w5 (w2.heap.size + 1) 27 (pcells ⟨3, day, p.f3, p.f2, p.f4, p.f5, i⟩) ∧ Below w.heap.size w w5 ∧ Kd.C k27 w5 A n ps := by
  subst h5
  have hb : Below w2.heap.size w2 ((w2.alloc (.cells #[.int .i64 p.f0, .int .i64 p.f1, .int .i64 p.f2, .int .i64 p.f3, .int .i64 p.f4, .int .i64 p.f5, .int .i64 p.f6] 27)).alloc (.cells #[.int .i64 3, .int .i64 day, .int .i64 p.f3, .int .i64 p.f2, .int .i64 p.f4, .int .i64 p.f5, .int .i64 i] 27)) := below2 w2 _ _
  refine ⟨hG.belowS hb, hR.belowS hb, (Blk.new w2 27 (pcells p)).alloc _, ?_, Below.trans hB (hb.mono hB.size), Kd.C_below hC hb⟩
  have h := Blk.new (w2.alloc (.cells #[.int .i64 p.f0, .int .i64 p.f1, .int .i64 p.f2, .int .i64 p.f3, .int .i64 p.f4, .int .i64 p.f5, .int .i64 p.f6] 27)) 27 (pcells ⟨3, day, p.f3, p.f2, p.f4, p.f5, i⟩)
  rw [show (w2.alloc (.cells #[.int .i64 p.f0, .int .i64 p.f1, .int .i64 p.f2, .int .i64 p.f3, .int .i64 p.f4, .int .i64 p.f5, .int .i64 p.f6] 27)).heap.size = w2.heap.size + 1 by simp] at h
  exact h
set_option maxRecDepth 100000 in
set_option maxHeartbeats 4000000 in
theorem rDisp_main (acc clo : Int) (A : Option Addr) (n c : Nat) (ps : List S27) (hl : ps.length = n) (i day amount : Int) (hi0 : 0 ≤ i) (hin : i < (n : Int)) (ha : decide (0 ≤ amount ∧ amount ≤ 1000000000000) = true) (p : S27) (hp : rd_T27 ps i = p) (r1 : Int × List S27 × Int × Int × Int) (hr1 : postF acc ps clo ⟨3, day, p.f3, p.f2, p.f4, p.f5, i⟩ = r1) (hr1l : r1.2.1.length ≤ 1000) (r2 : Int × List S27 × Int × Int × Int) (hr2 : postF r1.1 r1.2.1 r1.2.2.1 (newP p day amount) = r2) (w : World) (hC : Kd.C k27 w A n ps) (hc : n ≤ c) (hn : n ≤ 999990) :
    Calls Tryd.prog 31 #[.agg #[.int .i64 acc, .slice A n c, .int .i64 clo], .int .i64 i, .int .i64 day, .int .i64 amount] w fun e w' => ∃ (A' : Option Addr) (c' n' : Nat),
      ((r1.2.2.2.2 ≠ 0 ∨ amount = 0) ∧ r1.2.1.length = n' ∧ e = .returned (.tuple #[.agg #[.int .i64 r1.1, .slice A' n' c', .int .i64 r1.2.2.1], .int .i64 r1.2.2.2.2]) ∧ Kd.R k27 27 w' w.heap.size (fun _ => True) (.slice A' n' c') r1.2.1 ∨
       (r1.2.2.2.2 = 0 ∧ amount ≠ 0) ∧ r2.2.1.length = n' ∧ e = .returned (.tuple #[.agg #[.int .i64 r2.1, .slice A' n' c', .int .i64 r2.2.2.1], .int .i64 r2.2.2.2.2]) ∧ Kd.R k27 27 w' w.heap.size (fun _ => True) (.slice A' n' c') r2.2.1) ∧ Below w.heap.size w w' := by
  have HR := Lib.hid (res_blk1 w (.cells #[.int .i64 acc, .slice A n c, .int .i64 clo] 24))
  have HB2 := Lib.hid (below2 w (.cells #[.int .i64 acc, .slice A n c, .int .i64 clo] 24) (.cells #[.int .i64 0, .slice none 0 0, .int .i64 0] 24))
  have HG := Lib.hid (gb_cells w acc clo A n c (.cells #[.int .i64 0, .slice none 0 0, .int .i64 0] 24) (Below.refl _ _))
  have d0 : decide (i < 0) = false := decide_eq_false (by omega)
  have d1 : decide ((n : Int) ≤ i) = false := decide_eq_false (by omega)
  have g1 := HG.out.cell (j := 1) rfl
  have HL := Lib.hid hl
  have HP := Lib.hid hp
  have HC := Lib.hid hC
  have HR1 := Lib.hid hr1
  have HR2 := Lib.hid hr2
  have HA := Lib.hid ha
  clear hl hp hC hr1 hr2 ha
  go_enter Tryd.func31, Tryd.ntmps31
  go_upto_region 3 with (first | (go_at_call 50; (with_reducible refine (rin_walk amount 0 1000000000000 true HA.out _).mono ?_); rintro e w2 ⟨rfl, hd2⟩) | fail)
  have hG2 := HG.out.belowS hd2.below
  have hR2 := HR.out.belowS hd2.below
  have hB2 := Below.trans HB2.out (hd2.below.mono HB2.out.size)
  have hC2 := Kd.C_below HC.out hB2
  clear hd2 HR HB2 HG g1 HA HC
  obtain ⟨ad, rfl, x0, x1, x2, x3, x4, x5, x6⟩ := at_T27 hC2 i hi0 hin
  rw [HP.out] at x0 x1 x2 x3 x4 x5 x6
  have g1 := hG2.cell (j := 1) rfl
  have HG2 := Lib.hid hG2
  have HR2' := Lib.hid hR2
  have HBB := Lib.hid hB2
  have HC2 := Lib.hid hC2
  clear hG2 hR2 hB2 hC2
  go_upto_region 5 with (fail)
  clear x0 x1 x2 x3 x4 x5 x6 g1
  change Code.wp _ _ _ _ ((w2.alloc (.cells #[.int .i64 p.f0, .int .i64 p.f1, .int .i64 p.f2, .int .i64 p.f3, .int .i64 p.f4, .int .i64 p.f5, .int .i64 p.f6] 27)).alloc (.cells #[.int .i64 3, .int .i64 day, .int .i64 p.f3, .int .i64 p.f2, .int .i64 p.f4, .int .i64 p.f5, .int .i64 i] 27))
  generalize h5 : (w2.alloc (.cells #[.int .i64 p.f0, .int .i64 p.f1, .int .i64 p.f2, .int .i64 p.f3, .int .i64 p.f4, .int .i64 p.f5, .int .i64 p.f6] 27)).alloc (.cells #[.int .i64 3, .int .i64 day, .int .i64 p.f3, .int .i64 p.f2, .int .i64 p.f4, .int .i64 p.f5, .int .i64 i] 27) = w5
  obtain ⟨mG, mR, mP, mB, mb, mC⟩ := rdisp_mem w w2 acc clo _ n c ps p i day HG2.out HR2'.out HBB.out HC2.out h5
  have hq : w.heap.size + 1 < w2.heap.size := HR2'.out.lt
  have HQ1 := Lib.hid mB.lt
  clear h5 HG2 HR2' HBB HC2
  generalize w2.heap.size = q at *
  clear w2
  have HG := Lib.hid mG
  have HR := Lib.hid mR
  have HPB := Lib.hid mP
  have HB := Lib.hid mb
  have HC := Lib.hid mC
  obtain ⟨z0, z1, z2, z3, z4, z5, z6⟩ := pc_cells mB
  have g0 := mG.cell (j := 0) rfl
  have g1 := mG.cell (j := 1) rfl
  have g2 := mG.cell (j := 2) rfl
  clear mG mR mP mB mb mC
  go_upto_region 6 with (first | (go_at_call 30; (with_reducible refine (rPost_walk acc clo _ n c ps HL.out ⟨3, day, p.f3, p.f2, p.f4, p.f5, i⟩ r1 HR1.out _ HC.out hc (by omega)).mono ?_); rintro e w6 ⟨A', c', n', hl', rfl, hKR, hb6⟩) | fail)
  have HSL := Lib.hid (show Kd.R k27 27 (w6.alloc (.cells #[.int .i64 r1.1, .slice A' n' c', .int .i64 r1.2.2.1] 24)) w5.heap.size (fun _ => True) (.slice A' n' c') r1.2.1 from Kd.R_below hKR ((Below.refl _ _).alloc (Nat.le_refl _) _))
  have hqs : q + 1 < w5.heap.size := HQ1.out
  have HX := Lib.hid ((HR.out.belowS hb6).alloc (.cells #[.int .i64 r1.1, .slice A' n' c', .int .i64 r1.2.2.1] 24))
  have HNX := Lib.hid (Blk.new w6 24 [.int .i64 r1.1, .slice A' n' c', .int .i64 r1.2.2.1])
  have HPQ := Lib.hid ((HPB.out.belowS hb6).alloc (.cells #[.int .i64 r1.1, .slice A' n' c', .int .i64 r1.2.2.1] 24))
  have HW := Lib.hid ((Below.trans HB.out (hb6.mono HB.out.size)).alloc (Nat.le_trans HB.out.size hb6.size) (.cells #[.int .i64 r1.1, .slice A' n' c', .int .i64 r1.2.2.1] 24))
  have hd6 : q + 1 < w6.heap.size := Nat.lt_of_lt_of_le hqs hb6.size
  have HWS := Lib.hid HB.out.size
  clear z0 z1 z2 z3 z4 z5 z6 g0 g1 g2 hKR HC HG HR HPB HB
  generalize w6.heap.size = d at *
  generalize w6.alloc (.cells #[.int .i64 r1.1, .slice A' n' c', .int .i64 r1.2.2.1] 24) = w7 at *
  clear hb6 w6
  by_cases hcase : r1.2.2.2.2 ≠ 0 ∨ amount = 0
  · have g0 := HNX.out.cell (j := 0) rfl
    have g1 := HNX.out.cell (j := 1) rfl
    have g2 := HNX.out.cell (j := 2) rfl
    obtain ⟨b1, b2, b3, b4, b5, b6, b7, b8, b9, b10⟩ := res_facts HX.out (.int .i64 r1.1) (.slice A' n' c') (.int .i64 r1.2.2.1)
    have HB10 := Lib.hid b10
    by_cases he : r1.2.2.2.2 = 0
    · have hz : amount = 0 := hcase.resolve_left (fun h => h he)
      have e1 : (r1.2.2.2.2 == 0) = true := by simp [he]
      have e2 : (amount == 0) = true := by simp [hz]
      clear hcase
      go_wp2
      refine bodyPost_ret (results_list (rs := [.cell 8 24, .tmp 9]) rfl (by simp) (.cell _ _ _ (0, 0) _ rfl HB10.out Tryd.underlying24 rfl (by kernel_rfl) (.tmp .nil))) rfl ?_
      exact ⟨A', c', n', Or.inl ⟨Or.inr hz, hl', rfl, Kd.R_lower (res_keep HSL.out HX.out _ _ _) HWS.out⟩, res_below HW.out (by omega) _ _ _⟩
    · have e1 : (r1.2.2.2.2 == 0) = false := by simp [he]
      clear hcase
      go_wp2
      refine bodyPost_ret (results_list (rs := [.cell 8 24, .tmp 9]) rfl (by simp) (.cell _ _ _ (0, 0) _ rfl HB10.out Tryd.underlying24 rfl (by kernel_rfl) (.tmp .nil))) rfl ?_
      exact ⟨A', c', n', Or.inl ⟨Or.inl he, hl', rfl, Kd.R_lower (res_keep HSL.out HX.out _ _ _) HWS.out⟩, res_below HW.out (by omega) _ _ _⟩
  · have he : r1.2.2.2.2 = 0 := Decidable.not_not.1 fun h => hcase (Or.inl h)
    have hz : amount ≠ 0 := fun h => hcase (Or.inr h)
    have e1 : (r1.2.2.2.2 == 0) = true := by simp [he]
    have e2 : (amount == 0) = false := by simp [hz]
    clear hcase
    have h1 := HPQ.out
    have m1 := h1.cell (j := 1) rfl
    have m2 := h1.free 1
    have h3 := h1.set 1 (.int .i64 day)
    have m3 := h3.cell (j := 4) rfl
    have m4 := h3.free 4
    have HNP : Hid (Blk ((w7.setCell ⟨q, 1, none⟩ (.int .i64 day)).setCell ⟨q, 4, none⟩ (.int .i64 amount)) q 27 (pcells (newP p day amount))) := Lib.hid (h3.set 4 (.int .i64 amount))
    have HX9 := Lib.hid ((HX.out.set_other ⟨q, 1, none⟩ (by simp; omega) (.int .i64 day)).set_other ⟨q, 4, none⟩ (by simp; omega) (.int .i64 amount))
    have HNX9 := Lib.hid ((HNX.out.set_other ⟨q, 1, none⟩ (by simp; omega) (.int .i64 day)).set_other ⟨q, 4, none⟩ (by simp; omega) (.int .i64 amount))
    have HW9 := Lib.hid ((HW.out.setCell (p := ⟨q, 1, none⟩) (show w.heap.size ≤ q by omega) (.int .i64 day)).setCell (p := ⟨q, 4, none⟩) (show w.heap.size ≤ q by omega) (.int .i64 amount))
    have HSL9 := Lib.hid (kr_under (kr_under HSL.out (a := ⟨q, 1, none⟩) (by simp; omega) (.int .i64 day)) (a := ⟨q, 4, none⟩) (by simp; omega) (.int .i64 amount))
    clear HPQ HX HNX HW HSL h1 h3
    go_upto_region 10 with (fail)
    generalize (w7.setCell ⟨q, 1, none⟩ (.int .i64 day)).setCell ⟨q, 4, none⟩ (.int .i64 amount) = w9 at *
    clear m1 m2 m3 m4 w7
    obtain ⟨z0, z1, z2, z3, z4, z5, z6⟩ := pc_cells HNP.out
    have g0 := HNX9.out.cell (j := 0) rfl
    have g1 := HNX9.out.cell (j := 1) rfl
    have g2 := HNX9.out.cell (j := 2) rfl
    obtain ⟨A1, c1, eq1, hle1, hC9⟩ := Kd.R_reads HSL9.out
    obtain ⟨rfl, eq2, rfl⟩ := Value.slice.inj eq1
    have HQ2 := Lib.hid (show n' = r1.2.1.length from eq2)
    clear eq1 eq2
    have HC9 := Lib.hid hC9
    clear hC9 HNP HSL9
    go_upto_region 11 with (first | (go_at_call 30; (with_reducible refine (rPost_walk r1.1 r1.2.2.1 _ n' c' r1.2.1 hl' (newP p day amount) r2 HR2.out _ (HQ2.out ▸ HC9.out) (by omega) (by omega)).mono ?_); rintro e w10 ⟨A2, c2, n2, hl2, rfl, hKR, hb10⟩; obtain ⟨y1, y2, y3, y4, y5, y6, y7, y8, y9, y10⟩ := res_facts (HNX9.out.belowS hb10) (.int .i64 r2.1) (.slice A2 n2 c2) (.int .i64 r2.2.2.1)) | fail)
    have HX11 := Lib.hid (((((HX9.out.belowS hb10).set_other ⟨d, 0, none⟩ (by simp; omega) (.int .i64 r2.1)).set_other ⟨d, 1, none⟩ (by simp; omega) (.slice A2 n2 c2)).set_other ⟨d, 2, none⟩ (by simp; omega) (.int .i64 r2.2.2.1)))
    have HW11 := Lib.hid (res_below (R := d) (Below.trans HW9.out (hb10.mono HW9.out.size)) (by omega) (.int .i64 r2.1) (.slice A2 n2 c2) (.int .i64 r2.2.2.1))
    have HS9 := Lib.hid HW9.out.size
    have HSL11 := Lib.hid (res_keep hKR (HNX9.out.belowS hb10) (.int .i64 r2.1) (.slice A2 n2 c2) (.int .i64 r2.2.2.1))
    clear z0 z1 z2 z3 z4 z5 z6 g0 g1 g2 y1 y2 y3 y4 y5 y6 y10 hKR HW9 HX9 HNX9 hb10
    generalize ((w10.setCell ⟨d, 0, none⟩ (.int .i64 r2.1)).setCell ⟨d, 1, none⟩ (.slice A2 n2 c2)).setCell ⟨d, 2, none⟩ (.int .i64 r2.2.2.1) = w11 at *
    obtain ⟨b1, b2, b3, b4, b5, b6, b7, b8, b9, b10⟩ := res_facts HX11.out (.int .i64 r2.1) (.slice A2 n2 c2) (.int .i64 r2.2.2.1)
    have HB10 := Lib.hid b10
    clear b10
    go_wp2
    refine bodyPost_ret (results_list (rs := [.cell 8 24, .tmp 9]) rfl (by simp) (.cell _ _ _ (0, 0) _ rfl HB10.out Tryd.underlying24 rfl (by kernel_rfl) (.tmp .nil))) rfl ?_
    exact ⟨A2, c2, n2, Or.inr ⟨⟨he, hz⟩, hl2, rfl, Kd.R_lower (res_keep HSL11.out HX11.out _ _ _) HS9.out⟩, res_below HW11.out (by omega) _ _ _⟩
theorem disp_no (acc clo : Int) (ps : List S27) (i day amount : Int) (h : ¬ ((0 ≤ i ∧ i < (ps.length : Int)) ∧ (0 ≤ amount ∧ amount ≤ 1000000000000))) : dispF acc ps clo i day amount = errB := by
  unfold dispF
  have hh : (decide (0 ≤ i ∧ i < (ps.length : Int)) && decide (0 ≤ amount ∧ amount ≤ 1000000000000)) = false := by
    rw [Bool.and_eq_false_iff]
    by_cases h1 : 0 ≤ i ∧ i < (ps.length : Int)
    · exact Or.inr (decide_eq_false fun h2 => h ⟨h1, h2⟩)
    · exact Or.inl (decide_eq_false h1)
  rw [Bool.and_assoc (validB acc ps clo), hh, Bool.and_false, Bool.false_and]
  rfl
theorem disp_yes (acc clo : Int) (ps : List S27) (i day amount : Int) (hi : 0 ≤ i ∧ i < (ps.length : Int)) (ha : 0 ≤ amount ∧ amount ≤ 1000000000000) (p : S27) (hp : rd_T27 ps i = p) (r1 : Int × List S27 × Int × Int × Int) (hr1 : postF acc ps clo ⟨3, day, p.f3, p.f2, p.f4, p.f5, i⟩ = r1) :
    r1.2.1.length ≤ 1000 ∧ ((r1.2.2.2.2 ≠ 0 ∨ amount = 0) → dispF acc ps clo i day amount = (r1.1, r1.2.1, r1.2.2.1, r1.2.2.2.2)) ∧
    (r1.2.2.2.2 = 0 ∧ amount ≠ 0 → ∀ r2, postF r1.1 r1.2.1 r1.2.2.1 (newP p day amount) = r2 → dispF acc ps clo i day amount = (r2.1, r2.2.1, r2.2.2.1, r2.2.2.2.2)) := by
  have hq : (backP p i.toNat day) = ⟨3, day, p.f3, p.f2, p.f4, p.f5, i⟩ := by unfold backP; rw [show ((i.toNat : Nat) : Int) = i by omega]
  subst hr1
  unfold dispF
  rw [decide_eq_true hi, decide_eq_true ha, hp, hq, Bool.and_true, Bool.and_true]
  unfold postF
  cases hb : (validB acc ps clo && postB acc clo ps ⟨3, day, p.f3, p.f2, p.f4, p.f5, i⟩) with
  | false => exact ⟨by simp, fun _ => rfl, fun h => absurd (show (240 : Int) = 0 from h.1) (by decide)⟩
  | true =>
    rw [if_pos rfl, if_pos rfl]
    rw [Bool.and_eq_true] at hb
    refine ⟨by have := post_len hb.2; simp only; omega, fun h => ?_, fun h r2 hr2 => ?_⟩
    · have h0 : amount = 0 := h.resolve_left (fun h => h rfl)
      rw [if_neg (by omega)]
    · have hv : validB acc (ps ++ [⟨3, day, p.f3, p.f2, p.f4, p.f5, i⟩]) clo = true := by
        have := hb.2
        unfold postB at this
        rw [Bool.and_eq_true] at this
        rw [valid_snoc, hb.1, this.2]; rfl
      rw [if_pos (by omega)]
      subst hr2
      simp only
      rw [hv, Bool.true_and]
      split <;> rfl
end Go.Proofs.YtooogaogbffjfaaDoor.Ext
end
section
set_option linter.unusedVariables false
set_option linter.unusedSimpArgs false
namespace Go.Proofs.YtooogaogbffjfaaDoor.PB
set_option maxRecDepth 100000
open Go.RowKit Go.Shelf Go.Proofs.YtooogaogbffjfaaDoorW.PrintWords Go.Proofs.YtooogaogbffjfaaDoorW.PrintLast Go.Proofs.YtooogaogbffjfaaDoorW.PrintMore Go.Proofs.YtooogaogbffjfaaDoor.PK Go.Proofs.YtooogaogbffjfaaDoor.Bk Go.Proofs.YtooogaogbffjfaaDoor.Ext
def aircheckref24_Dispute.f (k : Nat) (a0_0 : Int) (l0_1 : List (S27)) (a0_2 : Int) (a1 : Int) (a2 : Int) (a3 : Int) : Option (Int × (List (S27)) × Int × Int) := if l0_1.length ≤ 999990 then some (dispF a0_0 l0_1 a0_2 a1 a2 a3) else none
theorem aircheckref24_Dispute.calls (k : Nat) (a0_0 : Int) (A0_1 : Option Addr) (c0_1 : Nat) (l0_1 : List (S27)) (a0_2 : Int) (a1 : Int) (a2 : Int) (a3 : Int) (r1 : Int) (r2 : List (S27)) (r3 : Int) (r4 : Int) (w : World) (hr0_1 : Kd.C k27 w A0_1 l0_1.length l0_1) (hc0_1 : l0_1.length ≤ c0_1) (h : aircheckref24_Dispute.f k a0_0 l0_1 a0_2 a1 a2 a3 = some (r1, r2, r3, r4)) :
  Calls Tryd.prog 31 #[.agg #[.int .i64 a0_0, .slice A0_1 l0_1.length c0_1, .int .i64 a0_2], .int .i64 a1, .int .i64 a2, .int .i64 a3] w fun e w' => ∃ v1_ : Value, e = .returned (.tuple #[.agg #[.int .i64 r1, v1_, .int .i64 r3], .int .i64 r4]) ∧ Kd.R k27 27 w' w.heap.size (fun _ => True) v1_ r2 ∧ Below w.heap.size w w' := by
 unfold aircheckref24_Dispute.f at h
 by_cases hn : l0_1.length ≤ 999990
 ·rw [if_pos hn] at h
  have h := Option.some.inj h
  by_cases hc : (0 ≤ a1 ∧ a1 < (l0_1.length : Int)) ∧ (0 ≤ a3 ∧ a3 ≤ 1000000000000)
  ·obtain ⟨y1, y2, y3⟩ := disp_yes a0_0 a0_2 l0_1 a1 a2 a3 hc.1 hc.2 _ rfl _ rfl
   refine (rDisp_main a0_0 a0_2 A0_1 l0_1.length c0_1 l0_1 rfl a1 a2 a3 hc.1.1 hc.1.2 (decide_eq_true hc.2) _ rfl _ rfl y1 _ rfl w hr0_1 hc0_1 hn).mono ?_
   rintro e w' ⟨A', c', n', hcase | hcase, hb⟩
   ·obtain ⟨h1, hl, he, hR⟩ := hcase
    rw [y2 h1] at h
    simp only [Prod.mk.injEq] at h
    obtain ⟨rfl, rfl, rfl, rfl⟩ := h
    exact ⟨_, he, hR, hb⟩
   ·obtain ⟨h1, hl, he, hR⟩ := hcase
    rw [y3 h1 _ rfl] at h
    simp only [Prod.mk.injEq] at h
    obtain ⟨rfl, rfl, rfl, rfl⟩ := h
    exact ⟨_, he, hR, hb⟩
  ·rw [disp_no _ _ _ _ _ _ hc] at h
   unfold errB at h
   simp only [Prod.mk.injEq] at h
   obtain ⟨rfl, rfl, rfl, rfl⟩ := h
   refine (rDisp_err a0_0 a0_2 A0_1 l0_1.length c0_1 l0_1 rfl a1 a2 a3 hc w).mono ?_
   rintro e w' ⟨he, hb⟩
   exact ⟨_, he, Kd.R_nil _ _ _ _ _, hb⟩
 ·rw [if_neg hn] at h
  cases h
end Go.Proofs.YtooogaogbffjfaaDoor.PB
end
section
set_option linter.unusedVariables false
set_option linter.unusedSimpArgs false
namespace Go.Proofs.YtooogaogbffjfaaDoor.Ext
set_option maxRecDepth 100000
open Go.RowKit Go.Shelf Go.Proofs.YtooogaogbffjfaaDoorW.PrintWords Go.Proofs.YtooogaogbffjfaaDoorW.PrintLast Go.Proofs.YtooogaogbffjfaaDoorW.PrintMore Go.Proofs.YtooogaogbffjfaaDoor.PK Go.Proofs.YtooogaogbffjfaaDoor.Bk Go.Proofs.YtooogaogbffjfaaDoor.PB
attribute [local go_sem] Oper.semAt_some
set_option maxRecDepth 100000 in
set_option maxHeartbeats 4000000 in
theorem rClose_err (acc clo : Int) (A : Option Addr) (n c : Nat) (ps : List S27) (hl : ps.length = n) (m : Int) (hc2 : ¬ (validB acc ps clo = true ∧ m = clo ∧ 0 ≤ clo ∧ clo ≤ 11)) (w : World) (hC : Kd.C k27 w A n ps) :
    Calls Tryd.prog 32 #[.agg #[.int .i64 acc, .slice A n c, .int .i64 clo], .int .i64 m] w fun e w' => e = .returned (.tuple #[.agg #[.int .i64 0, .slice none 0 0, .int .i64 0], .int .i64 240]) ∧ Below w.heap.size w w' := by
  obtain ⟨vb, hvb⟩ : ∃ b, validB acc ps clo = b := ⟨_, rfl⟩
  obtain ⟨b3, hb3⟩ : ∃ b, decide (0 ≤ m ∧ m ≤ 11) = b := ⟨_, rfl⟩
  have HR := Lib.hid (res_blk1 w (.cells #[.int .i64 acc, .slice A n c, .int .i64 clo] 24))
  have HB2 := Lib.hid (below2 w (.cells #[.int .i64 acc, .slice A n c, .int .i64 clo] 24) (.cells #[.int .i64 0, .slice none 0 0, .int .i64 0] 24))
  have HG := Lib.hid (gb_cells w acc clo A n c (.cells #[.int .i64 0, .slice none 0 0, .int .i64 0] 24) (Below.refl _ _))
  have HV := Lib.hid (rValid_walk acc clo A n c ps hl vb hvb _ (Kd.C_below hC HB2.out))
  have H3 := Lib.hid hb3
  have HN := Lib.hid (show vb = true → m = clo → b3 = false from fun h1 h2 => by
    subst h2
    rw [← hb3]
    exact decide_eq_false fun h => hc2 ⟨hvb.trans h1, by first | rfl | trivial, h⟩)
  have g0 := HG.out.cell (j := 0) rfl
  have g1 := HG.out.cell (j := 1) rfl
  have g2 := HG.out.cell (j := 2) rfl
  clear hvb hb3 hc2 hC
  cases vb with
  | false =>
    go_enter Tryd.func32, Tryd.ntmps32
    go_wp2_with (first | (go_at_call 37; (with_reducible refine HV.out.mono ?_); rintro e w2 ⟨rfl, hb⟩; have hR := HR.out.belowS hb; obtain ⟨r1, r2, r3, r4, r5, r6, r7, r8, r9, r10⟩ := res_facts hR (.int .i64 0) (.slice none 0 0) (.int .i64 0)) | fail)
    refine bodyPost_ret (results_list (rs := [.cell 4 24, .tmp 5]) rfl (by simp) (.cell _ _ _ (0, 0) _ rfl r10 Tryd.underlying24 rfl (by kernel_rfl) (.tmp .nil))) rfl ?_
    exact ⟨rfl, res_below (Below.trans HB2.out (hb.mono HB2.out.size)) (by omega) _ _ _⟩
  | true =>
    by_cases hm : m = clo
    · have hb3 : b3 = false := HN.out rfl hm
      subst hb3
      subst hm
      have hme : ¬ m ≠ m := fun h => h rfl
      go_enter Tryd.func32, Tryd.ntmps32
      go_wp2_with (first | (go_at_call 37; (with_reducible refine HV.out.mono ?_); rintro e w2 ⟨rfl, hb⟩; have hR := HR.out.belowS hb; have g2 := (HG.out.belowS hb).cell (j := 2) rfl; obtain ⟨r1, r2, r3, r4, r5, r6, r7, r8, r9, r10⟩ := res_facts hR (.int .i64 0) (.slice none 0 0) (.int .i64 0)) | (go_at_call 50; (with_reducible refine (in_same m 0 11 false H3.out _).mono ?_); rintro e w5 ⟨rfl, hw5⟩; obtain rfl := hw5.symm; clear hw5) | fail)
      refine bodyPost_ret (results_list (rs := [.cell 4 24, .tmp 5]) rfl (by simp) (.cell _ _ _ (0, 0) _ rfl r10 Tryd.underlying24 rfl (by kernel_rfl) (.tmp .nil))) rfl ?_
      exact ⟨rfl, res_below (Below.trans HB2.out (hb.mono HB2.out.size)) (by omega) _ _ _⟩
    · go_enter Tryd.func32, Tryd.ntmps32
      go_wp2_with (first | (go_at_call 37; (with_reducible refine HV.out.mono ?_); rintro e w2 ⟨rfl, hb⟩; have hR := HR.out.belowS hb; have g2 := (HG.out.belowS hb).cell (j := 2) rfl; obtain ⟨r1, r2, r3, r4, r5, r6, r7, r8, r9, r10⟩ := res_facts hR (.int .i64 0) (.slice none 0 0) (.int .i64 0)) | fail)
      refine bodyPost_ret (results_list (rs := [.cell 4 24, .tmp 5]) rfl (by simp) (.cell _ _ _ (0, 0) _ rfl r10 Tryd.underlying24 rfl (by kernel_rfl) (.tmp .nil))) rfl ?_
      exact ⟨rfl, res_below (Below.trans HB2.out (hb.mono HB2.out.size)) (by omega) _ _ _⟩
set_option maxRecDepth 100000 in
set_option maxHeartbeats 4000000 in
theorem rClose_yes (acc clo : Int) (A : Option Addr) (n c : Nat) (ps : List S27) (hl : ps.length = n) (hv : validB acc ps clo = true) (hcl : 0 ≤ clo ∧ clo ≤ 11) (w : World) (hC : Kd.C k27 w A n ps) (hn : n ≤ 1000000) :
    Calls Tryd.prog 32 #[.agg #[.int .i64 acc, .slice A n c, .int .i64 clo], .int .i64 clo] w fun e w' => ∃ v : Value, e = .returned (.tuple #[.agg #[.int .i64 acc, v, .int .i64 (clo + 1)], .int .i64 0]) ∧ Kd.R k27 27 w' w.heap.size (fun _ => True) v ps ∧ Below w.heap.size w w' := by
  have HR := Lib.hid (res_blk1 w (.cells #[.int .i64 acc, .slice A n c, .int .i64 clo] 24))
  have HB2 := Lib.hid (below2 w (.cells #[.int .i64 acc, .slice A n c, .int .i64 clo] 24) (.cells #[.int .i64 0, .slice none 0 0, .int .i64 0] 24))
  have HG := Lib.hid (gb_cells w acc clo A n c (.cells #[.int .i64 0, .slice none 0 0, .int .i64 0] 24) (Below.refl _ _))
  have HV := Lib.hid (rValid_walk acc clo A n c ps hl true hv _ (Kd.C_below hC HB2.out))
  have H3 := Lib.hid (decide_eq_true hcl : decide (0 ≤ clo ∧ clo ≤ 11) = true)
  have g0 := HG.out.cell (j := 0) rfl
  have g1 := HG.out.cell (j := 1) rfl
  have g2 := HG.out.cell (j := 2) rfl
  have HC := Lib.hid hC
  have HL := Lib.hid hl
  obtain ⟨c1, hc1⟩ : ∃ c1 : Int, clo + 1 = c1 := ⟨_, rfl⟩
  have hw1 : IntKind.i64.wrap (clo + 1) = c1 := by rw [IntWalk.i64_in _ (by omega), hc1]
  rw [hc1]
  have hne : ¬ clo ≠ clo := fun h => h rfl
  clear hv hcl hC hc1 hl
  go_enter Tryd.func32, Tryd.ntmps32
  go_upto_region 4 with (first | (go_at_call 37; (with_reducible refine HV.out.mono ?_); rintro e w2 ⟨rfl, hb⟩; have g0 := (HG.out.belowS hb).cell (j := 0) rfl; have g1 := (HG.out.belowS hb).cell (j := 1) rfl; have g2 := (HG.out.belowS hb).cell (j := 2) rfl) | (go_at_call 50; (with_reducible refine (in_same clo 0 11 true H3.out _).mono ?_); rintro e w5 ⟨rfl, hw5⟩; obtain rfl := hw5.symm; clear hw5) | fail)
  have hb3 : Below w.heap.size w (w2.alloc (.cells #[.int .i64 acc, .slice A n c, .int .i64 clo] 24)) := (Below.trans HB2.out (hb.mono HB2.out.size)).alloc (Nat.le_trans HB2.out.size hb.size) _
  have hba : Below w2.heap.size w2 (w2.alloc (.cells #[.int .i64 acc, .slice A n c, .int .i64 clo] 24)) := (Below.refl _ _).alloc (Nat.le_refl _) _
  have H6 := Lib.hid (Blk.newA w2 24 #[.int .i64 acc, .slice A n c, .int .i64 clo] [.int .i64 acc, .slice A n c, .int .i64 clo] rfl)
  have HR3 := Lib.hid ((HR.out.belowS hb).belowS hba)
  have HG3 := Lib.hid ((HG.out.belowS hb).belowS hba)
  have HB3 := Lib.hid hb3
  have HC3 := Lib.hid (Kd.C_below HC.out hb3)
  have HLT : Hid (w.heap.size + 1 < w2.heap.size) := Lib.hid (HR.out.belowS hb).lt
  clear hb hb3 hba HR HG HB2 HV HC g0 g1 g2
  generalize w2.alloc (.cells #[.int .i64 acc, .slice A n c, .int .i64 clo] 24) = w3 at *
  generalize w2.heap.size = g6 at *
  clear w2
  have g1 := HG3.out.cell (j := 1) rfl
  go_upto_region 5 with (first | ((with_reducible refine gate_dst (N := 23) rfl ?_); refine Kd.R_lit k27 _ 27 ?hg (N := 23) ?hd (xs := ([] : List S27)) (inner := []) (ok := fun _ => True) (okp := fun _ => True) ?hr ?hp (fun _ hk => hk) trivial (Below.refl _ _) (Nat.le_refl _) (by simp) ?_; (case hd => rfl); (case hg => rfl); (case hr => first | (go_simp; done) | (go_simp; rfl)); (case hp => exact (Reps.none _ _)); intro v4 w4 ho4 hb4 hg4 hn4; clear hg4 hn4; have g1 := (HG3.out.belowS hb4).cell (j := 1) rfl) | ((with_reducible refine gate_builtin (b := .append) (xs := #[.tmp 23, .tmp 25]) rfl ?_); at_builtin; refine Kd.R_append_rows k27 (w0 := w) w.heap.size rfl (.tmp 23) (.tmp 25) 22 27 (.agg #[(.int .i64 0), (.int .i64 0), (.int .i64 0), (.int .i64 0), (.int .i64 0), (.int .i64 0), (.int .i64 0)]) 56 rfl Tryd.underlying22 info27 rfl (by decide) (by omega) v4 [] ps _ _ _ (fun _ => True) (fun _ => False) rfl rfl ?aO ?aR (fun _ _ h => h) (fun _ h => h.elim) ?aF ?aB ?aS ?aL ?_; (case aR => exact Kd.C_below HC3.out hb4); (case aB => exact Below.trans HB3.out (hb4.mono HB3.out.size)); (case aF => exact (fun _ _ => trivial)); (case aO => exact Kd.R_lower ho4 HB3.out.size); (case aS => exact Nat.le_trans HB3.out.size hb4.size); (case aL => simp; omega); intro v5 w5 ho5 hb5 hg5 hat5; obtain ⟨A5, c5, rfl⟩ := Kd.R_slice ho5; have h65 := (H6.out.belowS hb4).grown hg5 (Kd.R_ne ho4 (H6.out.belowS hb4).heap (by decide)); have hr5 := (HR3.out.belowS hb4).grown hg5 (Kd.R_ne ho4 (HR3.out.belowS hb4).heap (by decide)); have f6 := h65.free 1; have s6 := h65.cell (j := 1) rfl) | fail)
  have h6a := h65.set 1 (.slice A5 ps.length c5)
  have h6b := h6a.set 2 (.int .i64 c1)
  have f2 := h6a.free 2
  have s2 := h6a.cell (j := 2) rfl
  rw [List.nil_append] at ho5
  have hr6 := (hr5.set_other ⟨g6, 1, none⟩ (by show w.heap.size + 1 ≠ g6; have := HLT.out; omega) (.slice A5 ps.length c5)).set_other ⟨g6, 2, none⟩ (by show w.heap.size + 1 ≠ g6; have := HLT.out; omega) (.int .i64 c1)
  have ho6 := Kd.R_set (Kd.R_set ho5 h65.heap (by decide) 1 (.slice A5 ps.length c5)) h6a.heap (by decide) 2 (.int .i64 c1)
  have hb6 := (hb5.setCell (p := ⟨g6, 1, none⟩) (show w.heap.size ≤ g6 by have := HLT.out; omega) (.slice A5 ps.length c5)).setCell (p := ⟨g6, 2, none⟩) (show w.heap.size ≤ g6 by have := HLT.out; omega) (.int .i64 c1)
  clear f6 s6 h65 hr5 ho5 hb5 hg5 hat5 g1 ho4 hb4
  go_upto_region 6 with (fail)
  have H6B : Hid (Blk ((w5.setCell ⟨g6, 1, none⟩ (.slice A5 ps.length c5)).setCell ⟨g6, 2, none⟩ (.int .i64 c1)) g6 24 [.int .i64 acc, .slice A5 ps.length c5, .int .i64 c1]) := Lib.hid h6b
  have HR6 := Lib.hid hr6
  have HO6 := Lib.hid ho6
  have HB6 := Lib.hid hb6
  clear h6a h6b hr6 ho6 hb6 f2 s2
  generalize (w5.setCell ⟨g6, 1, none⟩ (.slice A5 ps.length c5)).setCell ⟨g6, 2, none⟩ (.int .i64 c1) = w7 at *
  have z0 := H6B.out.cell (j := 0) rfl
  have z1 := H6B.out.cell (j := 1) rfl
  have z2 := H6B.out.cell (j := 2) rfl
  obtain ⟨r1, r2, r3, r4, r5, r6, r7, r8, r9, r10⟩ := res_facts HR6.out (.int .i64 acc) (.slice A5 ps.length c5) (.int .i64 c1)
  have R10 := Lib.hid r10
  clear r10
  go_wp2
  refine bodyPost_ret (results_list (rs := [.cell 4 24, .tmp 5]) rfl (by simp) (.cell _ _ _ (0, 0) _ rfl R10.out Tryd.underlying24 rfl (by kernel_rfl) (.tmp .nil))) rfl ?_
  exact ⟨_, rfl, res_keep HO6.out HR6.out _ _ _, res_below HB6.out (by omega) _ _ _⟩
end Go.Proofs.YtooogaogbffjfaaDoor.Ext
end
section
set_option linter.unusedVariables false
set_option linter.unusedSimpArgs false
namespace Go.Proofs.YtooogaogbffjfaaDoor.PB
set_option maxRecDepth 100000
open Go.RowKit Go.Shelf Go.Proofs.YtooogaogbffjfaaDoorW.PrintWords Go.Proofs.YtooogaogbffjfaaDoorW.PrintLast Go.Proofs.YtooogaogbffjfaaDoorW.PrintMore Go.Proofs.YtooogaogbffjfaaDoor.PK Go.Proofs.YtooogaogbffjfaaDoor.Bk Go.Proofs.YtooogaogbffjfaaDoor.Ext
def aircheckref24_Close.f (k : Nat) (a0_0 : Int) (l0_1 : List (S27)) (a0_2 : Int) (a1 : Int) : Option (Int × (List (S27)) × Int × Int) := if l0_1.length ≤ 1000000 then some (closeF a0_0 l0_1 a0_2 a1) else none
theorem aircheckref24_Close.calls (k : Nat) (a0_0 : Int) (A0_1 : Option Addr) (c0_1 : Nat) (l0_1 : List (S27)) (a0_2 : Int) (a1 : Int) (r1 : Int) (r2 : List (S27)) (r3 : Int) (r4 : Int) (w : World) (hr0_1 : Kd.C k27 w A0_1 l0_1.length l0_1) (hc0_1 : l0_1.length ≤ c0_1) (h : aircheckref24_Close.f k a0_0 l0_1 a0_2 a1 = some (r1, r2, r3, r4)) :
  Calls Tryd.prog 32 #[.agg #[.int .i64 a0_0, .slice A0_1 l0_1.length c0_1, .int .i64 a0_2], .int .i64 a1] w fun e w' => ∃ v1_ : Value, e = .returned (.tuple #[.agg #[.int .i64 r1, v1_, .int .i64 r3], .int .i64 r4]) ∧ Kd.R k27 27 w' w.heap.size (fun _ => True) v1_ r2 ∧ Below w.heap.size w w' := by
 unfold aircheckref24_Close.f at h
 by_cases hn : l0_1.length ≤ 1000000
 ·rw [if_pos hn] at h
  have h := Option.some.inj h
  unfold closeF at h
  by_cases hc : validB a0_0 l0_1 a0_2 = true ∧ a1 = a0_2 ∧ 0 ≤ a0_2 ∧ a0_2 ≤ 11
  ·obtain ⟨hv, rfl, hcl⟩ := hc
   rw [hv, decide_eq_true rfl, decide_eq_true hcl, if_pos (by decide)] at h
   simp only [Prod.mk.injEq] at h
   obtain ⟨rfl, rfl, rfl, rfl⟩ := h
   exact rClose_yes a0_0 a1 A0_1 l0_1.length c0_1 l0_1 rfl hv hcl w hr0_1 hn
  ·have hf : (validB a0_0 l0_1 a0_2 && decide (a1 = a0_2) && decide (0 ≤ a0_2 ∧ a0_2 ≤ 11)) = false := by
    rw [Bool.eq_false_iff]
    intro e
    rw [Bool.and_eq_true, Bool.and_eq_true] at e
    exact hc ⟨e.1.1, of_decide_eq_true e.1.2, of_decide_eq_true e.2⟩
   rw [hf, if_neg (by decide)] at h
   unfold errB at h
   simp only [Prod.mk.injEq] at h
   obtain ⟨rfl, rfl, rfl, rfl⟩ := h
   refine (rClose_err a0_0 a0_2 A0_1 l0_1.length c0_1 l0_1 rfl a1 hc w hr0_1).mono ?_
   rintro e w' ⟨he, hb⟩
   exact ⟨_, he, Kd.R_nil _ _ _ _ _, hb⟩
 ·rw [if_neg hn] at h
  cases h
end Go.Proofs.YtooogaogbffjfaaDoor.PB
end
section
set_option linter.unusedVariables false
set_option linter.unusedSimpArgs false
namespace Go.Proofs.YtooogaogbffjfaaDoor.Bk
set_option maxRecDepth 100000
open Go.RowKit Go.Proofs.YtooogaogbffjfaaDoorW.PrintWords Go.Proofs.YtooogaogbffjfaaDoorW.PrintLast Go.Proofs.YtooogaogbffjfaaDoorW.PrintMore Go.Proofs.YtooogaogbffjfaaDoor.Ext Go.Proofs.YtooogaogbffjfaaDoor.PB
theorem refDispute_is (k : Nat) (acc clo : Int) (ps : List S27) (i day amount : Int) (hk : 1001 ≤ k) (hn : ps.length ≤ 999990) :
    aircheckref24_Dispute.f k acc ps clo i day amount = some (dispF acc ps clo i day amount) := by
  unfold aircheckref24_Dispute.f
  rw [if_pos hn]
theorem refClose_is (k : Nat) (acc clo : Int) (ps : List S27) (m : Int) (hk : 1000 ≤ k) (hn : ps.length ≤ 1000000) :
    aircheckref24_Close.f k acc ps clo m = some (closeF acc ps clo m) := by
  unfold aircheckref24_Close.f
  rw [if_pos hn]
end Go.Proofs.YtooogaogbffjfaaDoor.Bk
end
