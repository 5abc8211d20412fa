import Derived.Test.YtlmlimihgohchaaDoorMCa
import Derived.Test.YtlmlimihgohchaaDoorMRa
import Derived.Test.YtlmlimihgohchaaDoorMRb
import Derived.Test.YtlmlimihgohchaaDoorMDa
import Derived.Test.YtlmlimihgohchaaDoorYSum
import Derived.Test.YtlmlimihgohchaaDoorYDigTree
/-
  Texts of this claim, one behind the other: what they prove stands above each.
-/
section
-- Written by a program of this session out of the translation's print; not trusted: checked by the kernel.
namespace Go.Proofs.YtlmlimihgohchaaDoor.PD
open Go.Proofs.YtlmlimihgohchaaDoor.Ext
attribute [local go_sem] u32_signed u32_max
open Go.RowKit Go.Proofs.YtlmlimihgohchaaDoorW.PrintWords Go.Proofs.YtlmlimihgohchaaDoorW.PrintLast Go.Proofs.YtlmlimihgohchaaDoorW.PrintMore
attribute [local go_sem] max2_int min2_int max_two min_two max_three min_three max_four min_four   -- for this text's walks alone
set_option linter.unusedVariables false
set_option linter.unusedSimpArgs false
/-! ### aircheckref02_Sum: function 33 -/
mutual
def aircheckref02_Sum.l0 : Nat → List Int → List Int → Int → Option (ByteArray)
 | 0, _, _, _ => none
 | k + 1, x3, x4, x5 => if x5 < (x4.length : Int) then (if 0 ≤ x5 then (if x5 ≤ (wrap64 (x5 + 64)) then (if (wrap64 (x5 + 64)) ≤ (x4.length : Int) then ((aircheckref02_block.f k x3 ((x4.take ((wrap64 (x5 + 64)) : Int).toNat).drop (x5 : Int).toNat)).bind fun t416 => (aircheckref02_Sum.l0 k t416 x4 (wrap64 (x5 + 64)))) else (none)) else (none)) else (none)) else (aircheckref02_Sum.l1 k x3 ([] : List Int) 0)
def aircheckref02_Sum.l1 : Nat → List Int → List Int → Int → Option (ByteArray)
 | 0, _, _, _ => none
 | k + 1, x3, x6, x7 => if x7 < 8 then (if 0 ≤ x7 then (if x7 < (x3.length : Int) then ((some (([((rd x3 x7) / 16777216) % 256, ((rd x3 x7) / 65536) % 256, ((rd x3 x7) / 256) % 256, (rd x3 x7) % 256] : List Int) : List Int)).bind fun y423 => (if x6.length + y423.length < 140737488355328 then (aircheckref02_Sum.l1 k x3 (x6 ++ y423) (wrap64 (x7 + 1))) else (none))) else (none)) else (none)) else (some (strOfNums x6))
end
def aircheckref02_Sum.f (k : Nat) (a0 : ByteArray) : Option (ByteArray) := (aircheckref02_extended.f k a0).bind fun t409 => (aircheckref02_Sum.l0 k (([1779033703, 3144134277, 1013904242, 2773480762, 1359893119, 2600822924, 528734635, 1541459225] : List Int)) t409 0)
def aircheckref02_Sum.T11 : Bool × List (List Nat × List Nat) := (true, [([], []), ([], []), ([], []), ([1, 2], [1, 2]), ([3], [3]), ([4], [4]), ([5], [5]), ([], []), ([], []), ([7, 8], [7, 8]), ([9], [9]), ([10], [10]), ([11], [11]), ([], []), ([], []), ([13, 14], [13, 14]), ([15], [15]), ([16], [16]), ([17], [17]), ([], []), ([], []), ([19, 20], [19, 20]), ([21], [21]), ([22], [22]), ([6, 12, 18, 23], [6, 12, 18, 23]), ([0, 24], [0, 24]), ([25, 25, 0, 1, 2, 3, 4, 5, 6, 7, 8, 9, 10, 11, 12, 13, 14, 15, 16, 17, 18, 19, 20, 21, 22, 23, 24, 25], [0, 25])])
def aircheckref02_Sum.B11 : List Nat := [0, 0, 0, 6, 14, 30, 62, 0, 0, 384, 896, 1920, 3968, 0, 0, 24576, 57344, 122880, 253952, 0, 0, 1572864, 3670016, 7864320, 16777214, 33554431, 67108863]
theorem aircheckref02_Sum.tab11 : rtab .any (opsOf Tryd.f33 11) = aircheckref02_Sum.T11 := by kernel_rfl
theorem aircheckref02_Sum.bits11 : waitsOk aircheckref02_Sum.T11.2 aircheckref02_Sum.B11 = true := by kernel_rfl
set_option maxHeartbeats 8000000 in
set_option maxRecDepth 100000 in
theorem aircheckref02_Sum.calls (k : Nat) (a0 : ByteArray) (r : ByteArray) (w : World) (h : aircheckref02_Sum.f k a0 = some r) :
  Calls Tryd.prog 33 #[.string a0] w fun e w' => e = .returned (.string r) ∧ Below w.heap.size w w' := by
 have HB := Aside0.mk (Below.refl w.heap.size w)
 have H : ((aircheckref02_extended.f k a0).bind fun t409 => (aircheckref02_Sum.l0 k (([1779033703, 3144134277, 1013904242, 2773480762, 1359893119, 2600822924, 528734635, 1541459225] : List Int)) t409 0)) = some r := h
 clear h
 obtain ⟨y406, hy406⟩ : ∃ y_ : List Int, y_ = (([1779033703, 3144134277, 1013904242, 2773480762, 1359893119, 2600822924, 528734635, 1541459225] : List Int)) := ⟨_, rfl⟩
 replace H : ((aircheckref02_extended.f k a0).bind fun t409 => (aircheckref02_Sum.l0 k y406 t409 0)) = some r := by first | (rw [hy406]; with_reducible exact H) | (have H2_ := (Option.bind_some _ _).symm.trans H; rw [hy406]; with_reducible exact H2_) | (have H2_ := (Option.bind_some _ _).symm.trans H; with_reducible exact H2_) | with_reducible exact H | (rw [hy406]; exact H) | exact H
 have Ny406 := Aside0.mk hy406
 clear hy406
 replace H := Option.bind_eq_some_iff.mp H
 obtain ⟨t409, A20, H⟩ := H
 replace H : (aircheckref02_Sum.l0 k y406 t409 0) = some r := H
 have A2 := Aside0.mk A20
 clear A20
 have H' := Aside0.mk H
 clear H
 go_enter Tryd.func33, Tryd.ntmps33
 go_wp2_with (first | ((with_reducible refine gate_dst (N := 8) rfl ?_); refine Kd.R_lit (Kd.int .u32) _ 69 ?hg (N := 8) ?hd (xs := ([1779033703, 3144134277, 1013904242, 2773480762, 1359893119, 2600822924, 528734635, 1541459225] : List Int)) (inner := [.int .u32 1779033703, .int .u32 3144134277, .int .u32 1013904242, .int .u32 2773480762, .int .u32 1359893119, .int .u32 2600822924, .int .u32 528734635, .int .u32 1541459225]) (ok := fun _ => True) (okp := fun _ => True) ?hr ?hp (fun _ hk => hk) trivial (Below.refl _ _) (Nat.le_refl _) (by simp) ?_; (case hd => rfl); (case hg => rfl); (case hr => first | (go_simp; done) | (go_simp; rfl)); (case hp => exact (Reps.one (show Kd.M (Kd.int .u32) _ _ _ 1779033703 [.int .u32 1779033703] from rfl) (Reps.one (show Kd.M (Kd.int .u32) _ _ _ 3144134277 [.int .u32 3144134277] from rfl) (Reps.one (show Kd.M (Kd.int .u32) _ _ _ 1013904242 [.int .u32 1013904242] from rfl) (Reps.one (show Kd.M (Kd.int .u32) _ _ _ 2773480762 [.int .u32 2773480762] from rfl) (Reps.one (show Kd.M (Kd.int .u32) _ _ _ 1359893119 [.int .u32 1359893119] from rfl) (Reps.one (show Kd.M (Kd.int .u32) _ _ _ 2600822924 [.int .u32 2600822924] from rfl) (Reps.one (show Kd.M (Kd.int .u32) _ _ _ 528734635 [.int .u32 528734635] from rfl) (Reps.one (show Kd.M (Kd.int .u32) _ _ _ 1541459225 [.int .u32 1541459225] from rfl) (Reps.none _ _)))))))))); intro v407 w3 ho4 hb hg_ hnew_; clear hg_ hnew_; (first | rw [← Ny406.out] at ho4 | (simp only [Int.reduceToNat] at ho4; rw [← Ny406.out] at ho4)); have n0_ := Aside0.mk (Kd.R_lower ho4 (below_size (by repeat (first | (with_reducible first | exact HB.out | apply below_alloc | apply pw_below_drewN | apply below_drew1) | exact HB.out)))); have n1_ := Aside0.mk (below_step (by repeat (first | (with_reducible first | exact HB.out | apply below_alloc | apply pw_below_drewN | apply below_drew1) | exact HB.out)) hb); clear HB; have HO408 := n0_; have HB := n1_; clear n0_ n1_; clear hb ho4) | ((with_reducible refine gate_callee (f := 57) rfl ?_); refine goesL_ (some 10) rfl rfl Tryd.func57 (by kernel_rfl) rfl #[.string a0] rfl (by (try simp only [List.map_toArray, List.map_cons, List.map_nil]); first | done | rfl | (simp only [List.length_drop, List.length_take]; rfl)) ?_; (with_reducible refine (aircheckref02_extended.calls k a0 t409 _ A2.out).mono ?_); rintro e w5 ⟨v410, rfl, ho0, hb⟩; refine ⟨_, rfl, ?_⟩; have n0_ := Aside0.mk (Kd.R_below (by (with_reducible repeat (first | apply Kd.R_alloc | apply Kd.R_drewN | apply Kd.R_drew)); exact HO408.out) hb); have n1_ := Aside0.mk (Kd.R_lower ho0 (below_size (by repeat (first | (with_reducible first | exact HB.out | apply below_alloc | apply pw_below_drewN | apply below_drew1) | exact HB.out)))); have n2_ := Aside0.mk (below_step (by repeat (first | (with_reducible first | exact HB.out | apply below_alloc | apply pw_below_drewN | apply below_drew1) | exact HB.out)) hb); clear HO408; clear HB; have HO408 := n0_; have HO411 := n1_; have HB := n2_; clear n0_ n1_ n2_; (try clear hb); (try clear hb2); (try clear hk); (try clear hi); (try clear ho0)))
 go_loopg [3, 5] k (fun kq v3 v5 w' => ∃ (x3_1 : List Int) (x5_1 : Int), v5 = .int .i64 x5_1 ∧ Aside0 (aircheckref02_Sum.l0 kq x3_1 t409 x5_1 = some r) ∧ Aside0 (kq ≤ k) ∧ Aside0 (Kd.R (Kd.int .u32) 69 w' w.heap.size (fun _ => True) v3 x3_1) ∧ Aside0 (Kd.R (Kd.int .u8) 5 w' w.heap.size (fun _ => True) v410 t409) ∧ Aside0 (Below w.heap.size w w'))
 case atStart => exact ⟨(y406), (0), (by first | rfl | (simp; done) | (simp [*]; done)), H', ⟨Nat.le_refl _⟩, ⟨by (with_reducible repeat (first | apply Kd.R_alloc | apply Kd.R_drewN | apply Kd.R_drew)); exact HO408.out⟩, ⟨by (with_reducible repeat (first | apply Kd.R_alloc | apply Kd.R_drewN | apply Kd.R_drew)); exact HO411.out⟩, ⟨by repeat (first | (with_reducible first | exact HB.out | apply below_alloc | apply pw_below_drewN | apply below_drew1) | exact HB.out)⟩⟩
 case round =>
  clear H'
  try clear p2
  try clear c3
  try clear c5
  obtain ⟨x3_1, x5_1, rfl, HA, HK1, HO_3, HO_4, HB⟩ := hrel
  cases gk with
  | zero => exact absurd HA.out (by simp [aircheckref02_Sum.l0])
  | succ k1 =>
   have H := HA.out
   clear HA
   simp only [aircheckref02_Sum.l0] at H
   by_cases c6 : x5_1 < (t409.length : Int)
   ·rw [if_pos c6] at H
    have c6b0 : decide (x5_1 < (t409.length : Int)) = true := decide_eq_true c6
    clear c6
    by_cases c7 : 0 ≤ x5_1
    ·rw [if_pos c7] at H
     have c7b0 := eq_true c7
     have c7b1 : decide (0 ≤ x5_1) = true := decide_eq_true c7
     clear c7
     by_cases c8 : x5_1 ≤ (wrap64 (x5_1 + 64))
     ·rw [if_pos c8] at H
      have c8b0 := eq_true c8
      have c8b1 : decide (x5_1 ≤ (wrap64 (x5_1 + 64))) = true := decide_eq_true c8
      by_cases c9 : (wrap64 (x5_1 + 64)) ≤ (t409.length : Int)
      ·rw [if_pos c9] at H
       have c9b0 := eq_true c9
       have c9b1 : decide ((wrap64 (x5_1 + 64)) ≤ (t409.length : Int)) = true := decide_eq_true c9
       obtain ⟨y412, hy412⟩ : ∃ y_ : List Int, y_ = ((t409.take ((wrap64 (x5_1 + 64)) : Int).toNat).drop (x5_1 : Int).toNat) := ⟨_, rfl⟩
       replace H : ((aircheckref02_block.f k1 x3_1 y412).bind fun t416 => (aircheckref02_Sum.l0 k1 t416 t409 (wrap64 (x5_1 + 64)))) = some r := by first | (rw [hy412]; with_reducible exact H) | (have H2_ := (Option.bind_some _ _).symm.trans H; rw [hy412]; with_reducible exact H2_) | (have H2_ := (Option.bind_some _ _).symm.trans H; with_reducible exact H2_) | with_reducible exact H | (rw [hy412]; exact H) | exact H
       have Ny412 := Aside0.mk hy412
       clear hy412
       replace H := Option.bind_eq_some_iff.mp H
       obtain ⟨t416, A100, H⟩ := H
       replace H : (aircheckref02_Sum.l0 k1 t416 t409 (wrap64 (x5_1 + 64))) = some r := H
       have A10 := Aside0.mk A100
       clear A100
       have H' := Aside0.mk H
       clear H
       obtain ⟨Ao11, co11, eo11⟩ := Kd.R_slice HO_4.out
       subst eo11
       have q12 : ((wrap64 (x5_1 + 64)) : Int) ≤ ((t409.length : Int) : Int) := of_decide_eq_true (by first | (with_reducible assumption) | assumption)
       obtain ⟨i012, hi012, _, hsz12, _⟩ := info_parts info5
       have hroom12 : t409.length ≤ co11 := (Kd.R_reads' HO_4.out).2.1
       have hC12 : Kd.C (Kd.int .u8) _ Ao11 t409.length t409 := (Kd.R_reads' HO_4.out).2.2
       have ql12 : (x5_1 : Int) ≤ ((wrap64 (x5_1 + 64)) : Int) := of_decide_eq_true (by first | (with_reducible assumption) | assumption)
       have q012 : (0 : Int) ≤ (x5_1 : Int) := of_decide_eq_true (by first | (with_reducible assumption) | assumption)
       have hcut12 := cut_mid (P := Tryd.prog) 46 5 .i64 .i64 Tryd.underlying46 hi012 1 hsz12 Ao11 t409.length co11 x5_1 (wrap64 (x5_1 + 64)) q012 ql12 q12 hroom12
       have hr12 := Kd.C_mid (lo := (x5_1 : Int).toNat) (hi := ((wrap64 (x5_1 + 64)) : Int).toNat) (c := co11) hC12 (by omega) (by omega) hroom12
       obtain ⟨A12, hA12⟩ : ∃ A1, A1 = (if co11 = (x5_1 : Int).toNat then Ao11 else (Ao11 : Option Addr).map (·.add ((x5_1 : Int).toNat * 1))) := ⟨_, rfl⟩
       obtain ⟨c12, hc12⟩ : ∃ c1, c1 = co11 - (x5_1 : Int).toNat := ⟨_, rfl⟩
       have hy12 : y412.length = ((wrap64 (x5_1 + 64)) : Int).toNat - (x5_1 : Int).toNat := (by rw [Ny412.out, List.length_drop, List.length_take] <;> omega)
       rw [show ((t409).take ((wrap64 (x5_1 + 64)) : Int).toNat).drop (x5_1 : Int).toNat = y412 from Ny412.out.symm] at hr12
       replace hr12 : Kd.C (Kd.int .u8) _ A12 y412.length y412 := (by rw [hA12]; exact hr12)
       rw [← hy12, ← hA12, ← hc12] at hcut12
       have HR415 := Aside0.mk hr12
       have HC415 := Aside0.mk (show y412.length ≤ c12 from by rw [hy12, hc12]; exact Nat.sub_le_sub_right (Nat.le_trans (by omega) hroom12) _)
       clear hr12 hC12 hroom12 hi012 hsz12 hc12
       have KY12 := Aside0.mk hy12
       have KA12 := Aside0.mk hA12
       clear hy12 hA12
       have KL12 := Aside0.mk (show ((wrap64 (x5_1 + 64)) : Int).toNat ≤ t409.length from by omega)
       have KM12 := Aside0.mk (show (x5_1 : Int).toNat ≤ ((wrap64 (x5_1 + 64)) : Int).toNat from by omega)
       replace q12 := eq_true q12
       obtain ⟨Ao13, co13, eo13⟩ := Kd.R_slice HO_3.out
       subst eo13
       go_wp2_with (first | ((with_reducible refine gate_callee (f := 58) rfl ?_); refine goesL_ (some 23) rfl rfl Tryd.func58 (by kernel_rfl) rfl #[.slice Ao13 x3_1.length co13, .slice A12 y412.length c12] rfl (by (try simp only [List.map_toArray, List.map_cons, List.map_nil]); first | done | rfl | (simp only [List.length_drop, List.length_take]; rfl)) ?_; (with_reducible refine (aircheckref02_block.calls k1 _ _ x3_1 _ _ y412 t416 _ ?side1 ?side2 ?side3 ?side4 A10.out).mono ?_); (case side1 => repeat (first | exact (Kd.R_reads' HO_3.out).2.2 | (with_reducible refine Kd.C_alloc ?_ _) | (with_reducible refine Kd.C_drewN ?_ _) | (with_reducible refine Kd.C_drew ?_))); (case side2 => exact (Kd.R_reads' HO_3.out).2.1); (case side3 => repeat (first | exact (by repeat (first | (with_reducible exact HR415.out) | (with_reducible refine Kd.C_alloc ?_ _) | (with_reducible refine Kd.C_drewN ?_ _) | (with_reducible refine Kd.C_drew ?_) | exact HR415.out)) | (with_reducible refine Kd.C_alloc ?_ _) | (with_reducible refine Kd.C_drewN ?_ _) | (with_reducible refine Kd.C_drew ?_))); (case side4 => exact HC415.out); rintro e w14 ⟨v417, rfl, ho0, hb⟩; refine ⟨_, rfl, ?_⟩; have n0_ := Aside0.mk (Kd.R_elder' (by (with_reducible repeat (first | apply Kd.R_alloc | apply Kd.R_drewN | apply Kd.R_drew)); exact HO_3.out) (Kd.R_base ho0) hb); have n1_ := Aside0.mk (Kd.R_below (by (with_reducible repeat (first | apply Kd.R_alloc | apply Kd.R_drewN | apply Kd.R_drew)); exact HO_4.out) hb); have n2_ := Aside0.mk (Kd.R_lower (Kd.R_new' ho0 (Kd.R_lt (by (with_reducible repeat (first | apply Kd.R_alloc | apply Kd.R_drewN | apply Kd.R_drew)); exact HO_3.out))) (below_size (by repeat (first | (with_reducible first | exact HB.out | apply below_alloc | apply pw_below_drewN | apply below_drew1) | exact HB.out)))); have n3_ := Aside0.mk (Kd.C_below (by repeat (first | (with_reducible exact HR415.out) | (with_reducible refine Kd.C_alloc ?_ _) | (with_reducible refine Kd.C_drewN ?_ _) | (with_reducible refine Kd.C_drew ?_) | exact HR415.out)) hb); have n4_ := Aside0.mk (below_step (by repeat (first | (with_reducible first | exact HB.out | apply below_alloc | apply pw_below_drewN | apply below_drew1) | exact HB.out)) hb); clear HO_3; clear HO_4; clear HR415; clear HB; have HO_3 := n0_; have HO_4 := n1_; have HO418 := n2_; have HR415 := n3_; have HB := n4_; clear n0_ n1_ n2_ n3_ n4_; (try clear hb); (try clear hb2); (try clear hk); (try clear hi); (try clear ho0)))
       go_roundg k1
       case measure => have := HK1.out; omega
       case rel => exact ⟨(t416), (wrap64 (x5_1 + 64)), (by first | rfl | (simp; done) | (simp [*]; done)), H', ⟨by have := HK1.out; omega⟩, ⟨by (with_reducible repeat (first | apply Kd.R_alloc | apply Kd.R_drewN | apply Kd.R_drew)); exact Kd.R_mono HO418.out (fun _ hk => trivial)⟩, ⟨by (with_reducible repeat (first | apply Kd.R_alloc | apply Kd.R_drewN | apply Kd.R_drew)); exact HO_4.out⟩, ⟨by repeat (first | (with_reducible first | exact HB.out | apply below_alloc | apply pw_below_drewN | apply below_drew1) | exact HB.out)⟩⟩
      ·rw [if_neg c9] at H
       exact absurd H (by simp)
     ·rw [if_neg c8] at H
      exact absurd H (by simp)
    ·rw [if_neg c7] at H
     exact absurd H (by simp)
   ·rw [if_neg c6] at H
    have c6b0 : decide (x5_1 < (t409.length : Int)) = false := decide_eq_false c6
    clear c6
    have H' := Aside0.mk H
    clear H
    obtain ⟨Ao15, co15, eo15⟩ := Kd.R_slice HO_4.out
    subst eo15
    go_wp2
    go_loopg [6, 7] k1 (fun kq v6 v7 w' => ∃ (x6_2 : List Int) (x7_2 : Int), v7 = .int .i64 x7_2 ∧ Aside0 (aircheckref02_Sum.l1 kq x3_1 x6_2 x7_2 = some r) ∧ Aside0 (kq ≤ k1) ∧ Aside0 (Kd.R (Kd.int .u32) 69 w' w.heap.size (fun _ => True) u3 x3_1) ∧ Aside0 (Kd.R (Kd.int .u8) 5 w' w.heap.size (fun _ => True) v6 x6_2) ∧ Aside0 (Below w.heap.size w w'))
    case atStart => exact ⟨(([] : List Int)), (0), (by first | rfl | (simp; done) | (simp [*]; done)), H', ⟨Nat.le_refl _⟩, ⟨by (with_reducible repeat (first | apply Kd.R_alloc | apply Kd.R_drewN | apply Kd.R_drew)); exact HO_3.out⟩, ⟨by first | exact Kd.R_nil _ _ _ _ _ | exact Kd.N_nil _ _ _ _ _ | exact Kd.V_nil _ _ _ _ _ | exact Kd.Q_nil _ _ _ _ _ | exact Kd.S_nil _ _ _ _ _⟩, ⟨by repeat (first | (with_reducible first | exact HB.out | apply below_alloc | apply pw_below_drewN | apply below_drew1) | exact HB.out)⟩⟩
    case round =>
     clear H'
     try clear c1
     try clear q1
     try clear p2
     try clear c3
     try clear c5
     try clear c6
     try clear c6b0
     try clear p6
     try clear c7
     try clear c7b0
     try clear c7b1
     try clear c8
     try clear c8b0
     try clear c8b1
     try clear c9
     try clear c9b0
     try clear c9b1
     try clear c12
     try clear q12
     try clear p2
     try clear q012
     try clear q12
     obtain ⟨x6_2, x7_2, rfl, HA, HK2, HO_3, HO_6, HB⟩ := hrel
     cases gk with
     | zero => exact absurd HA.out (by simp [aircheckref02_Sum.l1])
     | succ k2 =>
      have H := HA.out
      clear HA
      simp only [aircheckref02_Sum.l1] at H
      by_cases c16 : x7_2 < 8
      ·rw [if_pos c16] at H
       have c16b0 : decide (x7_2 < 8) = true := decide_eq_true c16
       clear c16
       by_cases c17 : 0 ≤ x7_2
       ·rw [if_pos c17] at H
        have c17b0 : decide (0 ≤ x7_2) = true := decide_eq_true c17
        clear c17
        by_cases c18 : x7_2 < (x3_1.length : Int)
        ·rw [if_pos c18] at H
         have c18b0 : decide (x7_2 < (x3_1.length : Int)) = true := decide_eq_true c18
         clear c18
         obtain ⟨y423, hy423⟩ : ∃ y_ : List Int, y_ = (([((rd x3_1 x7_2) / 16777216) % 256, ((rd x3_1 x7_2) / 65536) % 256, ((rd x3_1 x7_2) / 256) % 256, (rd x3_1 x7_2) % 256] : List Int)) := ⟨_, rfl⟩
         replace H : (if x6_2.length + y423.length < 140737488355328 then (aircheckref02_Sum.l1 k2 x3_1 (x6_2 ++ y423) (wrap64 (x7_2 + 1))) else (none)) = some r := by first | (rw [hy423]; with_reducible exact H) | (have H2_ := (Option.bind_some _ _).symm.trans H; rw [hy423]; with_reducible exact H2_) | (have H2_ := (Option.bind_some _ _).symm.trans H; with_reducible exact H2_) | with_reducible exact H | (rw [hy423]; exact H) | exact H
         have Ny423 := Aside0.mk hy423
         clear hy423
         by_cases c19 : x6_2.length + y423.length < 140737488355328
         ·rw [if_pos c19] at H
          have LMc19 := Aside0.mk c19
          clear c19
          obtain ⟨y426, hy426⟩ : ∃ y_ : List Int, y_ = (x6_2 ++ y423) := ⟨_, rfl⟩
          replace H : (aircheckref02_Sum.l1 k2 x3_1 y426 (wrap64 (x7_2 + 1))) = some r := by first | (rw [hy426]; with_reducible exact H) | (have H2_ := (Option.bind_some _ _).symm.trans H; rw [hy426]; with_reducible exact H2_) | (have H2_ := (Option.bind_some _ _).symm.trans H; with_reducible exact H2_) | with_reducible exact H | (rw [hy426]; exact H) | exact H
          have Ny426 := Aside0.mk hy426
          clear hy426
          have H' := Aside0.mk H
          clear H
          try go_wp2
          have n0_ := Aside0.mk (Kd.R_drew HO_3.out)
          have n1_ := Aside0.mk (Kd.R_drew HO_6.out)
          have n2_ := Aside0.mk (below_drew1 HB.out)
          clear HO_3
          clear HO_6
          clear HB
          have HO_3 := n0_
          have HO_6 := n1_
          have HB := n2_
          clear n0_ n1_ n2_
          obtain ⟨Ao21, co21, eo21⟩ := Kd.R_slice HO_3.out
          (first | subst eo21 | (injection eo21 with f1_ f2_ f3_; have f4_ := f1_.symm; have f5_ := f3_.symm; clear f1_ f2_ f3_; subst f4_; subst f5_))
          have p419 : 0 ≤ (x7_2 : Int) := of_decide_eq_true (by first | (with_reducible assumption) | assumption)
          have q419 : x7_2 < (x3_1.length : Int) := of_decide_eq_true (by first | (with_reducible assumption) | assumption)
          obtain ⟨ad419, e419, hx419_0⟩ := Kd.at_int (Kd.R_reads' HO_3.out).2.2 x7_2 p419 q419
          cases e419
          replace p419 := eq_true p419
          replace q419 := eq_true q419
          have p420 : 0 ≤ (x7_2 : Int) := of_decide_eq_true (by first | (with_reducible assumption) | assumption)
          have q420 : x7_2 < (x3_1.length : Int) := of_decide_eq_true (by first | (with_reducible assumption) | assumption)
          obtain ⟨ad420, e420, hx420_0⟩ := Kd.at_int (Kd.R_reads' HO_3.out).2.2 x7_2 p420 q420
          obtain rfl : ad419 = ad420 := (by injection e420)
          replace p420 := eq_true p420
          replace q420 := eq_true q420
          have p421 : 0 ≤ (x7_2 : Int) := of_decide_eq_true (by first | (with_reducible assumption) | assumption)
          have q421 : x7_2 < (x3_1.length : Int) := of_decide_eq_true (by first | (with_reducible assumption) | assumption)
          obtain ⟨ad421, e421, hx421_0⟩ := Kd.at_int (Kd.R_reads' HO_3.out).2.2 x7_2 p421 q421
          obtain rfl : ad419 = ad421 := (by injection e421)
          replace p421 := eq_true p421
          replace q421 := eq_true q421
          have p422 : 0 ≤ (x7_2 : Int) := of_decide_eq_true (by first | (with_reducible assumption) | assumption)
          have q422 : x7_2 < (x3_1.length : Int) := of_decide_eq_true (by first | (with_reducible assumption) | assumption)
          obtain ⟨ad422, e422, hx422_0⟩ := Kd.at_int (Kd.R_reads' HO_3.out).2.2 x7_2 p422 q422
          obtain rfl : ad419 = ad422 := (by injection e422)
          replace p422 := eq_true p422
          replace q422 := eq_true q422
          refine start_ (n := 27) (S := fun w' => w'.cell? (ad419.add (x7_2).toNat) = some (.int .u32 (rd x3_1 x7_2)) ∧ w'.cell? (ad419.add (x7_2).toNat) = some (.int .u32 (rd x3_1 x7_2)) ∧ w'.cell? (ad419.add (x7_2).toNat) = some (.int .u32 (rd x3_1 x7_2)) ∧ w'.cell? (ad419.add (x7_2).toNat) = some (.int .u32 (rd x3_1 x7_2))) (ds := [25]) #[false, false, false, false, false, false, false, false, false, false, false, false, false, false, false, false, false, false, false, false, false, false, false, false, false, false, false] (by kernel_rfl) rfl rfl ⟨hx419_0, hx420_0, hx421_0, hx422_0⟩ (fun hHeld => ?_); refine with_tabW aircheckref02_Sum.tab11 aircheckref02_Sum.bits11 (fun HT_ HW_ => ?_)
          generalize wr.drew = w20 at HO_3 HO_6 HB hx419_0 hx420_0 hx421_0 hx422_0 hHeld ⊢
          refine pure_ (i := 0) (N := some 28) (v := ?_) (a' := ?_) #[true, false, false, false, false, false, false, false, false, false, false, false, false, false, false, false, false, false, false, false, false, false, false, false, false, false, false] rfl rfl (any_of HT_.out (by kernel_rfl)) (fun _ _ _ h => h) (Or.inl ⟨by rfl, ?_⟩) ?_ ?_
          rotate_left
          ·intro w'
           go_simp
           with_reducible rfl
          rotate_left
          ·simp only [Act.put, List.setIfInBounds_toArray, List.set_cons_zero, List.set_cons_succ, i64_w, i32_w]
           rfl
          refine pure_ (i := 1) (N := some 29) (v := ?_) (a' := ?_) #[true, true, false, false, false, false, false, false, false, false, false, false, false, false, false, false, false, false, false, false, false, false, false, false, false, false, false] rfl rfl (any_of HT_.out (by kernel_rfl)) (fun _ _ _ h => h) (Or.inl ⟨by rfl, ?_⟩) ?_ ?_
          rotate_left
          ·intro w'
           go_simp
           with_reducible rfl
          rotate_left
          ·simp only [Act.put, List.setIfInBounds_toArray, List.set_cons_zero, List.set_cons_succ, i64_w, i32_w]
           rfl
          refine pure_ (i := 2) (N := some 30) (v := ?_) (a' := ?_) #[true, true, true, false, false, false, false, false, false, false, false, false, false, false, false, false, false, false, false, false, false, false, false, false, false, false, false] rfl rfl (any_of HT_.out (by kernel_rfl)) (fun _ _ _ h => h) (Or.inl ⟨by rfl, ?_⟩) ?_ ?_
          rotate_left
          ·intro w'
           go_simp
           with_reducible rfl
          rotate_left
          ·simp only [Act.put, List.setIfInBounds_toArray, List.set_cons_zero, List.set_cons_succ, i64_w, i32_w]
           rfl
          refine pure_ (i := 3) (N := some 31) (v := ?_) (a' := ?_) #[true, true, true, true, false, false, false, false, false, false, false, false, false, false, false, false, false, false, false, false, false, false, false, false, false, false, false] rfl rfl (any_of HT_.out (by kernel_rfl)) (fun _ _ _ h => h) (Or.inl ⟨by rfl, ?_⟩) ?_ ?_
          rotate_left
          ·intro w'
           go_simp
           with_reducible rfl
          rotate_left
          ·simp only [Act.put, List.setIfInBounds_toArray, List.set_cons_zero, List.set_cons_succ, i64_w, i32_w]
           rfl
          refine pure_ (i := 7) (N := some 35) (v := ?_) (a' := ?_) #[true, true, true, true, false, false, false, true, false, false, false, false, false, false, false, false, false, false, false, false, false, false, false, false, false, false, false] rfl rfl (any_of HT_.out (by kernel_rfl)) (fun _ _ _ h => h) (Or.inl ⟨by rfl, ?_⟩) ?_ ?_
          rotate_left
          ·intro w'
           go_simp
           with_reducible rfl
          rotate_left
          ·simp only [Act.put, List.setIfInBounds_toArray, List.set_cons_zero, List.set_cons_succ, i64_w, i32_w]
           rfl
          refine pure_ (i := 8) (N := some 36) (v := ?_) (a' := ?_) #[true, true, true, true, false, false, false, true, true, false, false, false, false, false, false, false, false, false, false, false, false, false, false, false, false, false, false] rfl rfl (any_of HT_.out (by kernel_rfl)) (fun _ _ _ h => h) (Or.inl ⟨by rfl, ?_⟩) ?_ ?_
          rotate_left
          ·intro w'
           go_simp
           with_reducible rfl
          rotate_left
          ·simp only [Act.put, List.setIfInBounds_toArray, List.set_cons_zero, List.set_cons_succ, i64_w, i32_w]
           rfl
          refine pure_ (i := 9) (N := some 37) (v := ?_) (a' := ?_) #[true, true, true, true, false, false, false, true, true, true, false, false, false, false, false, false, false, false, false, false, false, false, false, false, false, false, false] rfl rfl (any_of HT_.out (by kernel_rfl)) (fun _ _ _ h => h) (Or.inl ⟨by rfl, ?_⟩) ?_ ?_
          rotate_left
          ·intro w'
           go_simp
           with_reducible rfl
          rotate_left
          ·simp only [Act.put, List.setIfInBounds_toArray, List.set_cons_zero, List.set_cons_succ, i64_w, i32_w]
           rfl
          refine pure_ (i := 13) (N := some 41) (v := ?_) (a' := ?_) #[true, true, true, true, false, false, false, true, true, true, false, false, false, true, false, false, false, false, false, false, false, false, false, false, false, false, false] rfl rfl (any_of HT_.out (by kernel_rfl)) (fun _ _ _ h => h) (Or.inl ⟨by rfl, ?_⟩) ?_ ?_
          rotate_left
          ·intro w'
           go_simp
           with_reducible rfl
          rotate_left
          ·simp only [Act.put, List.setIfInBounds_toArray, List.set_cons_zero, List.set_cons_succ, i64_w, i32_w]
           rfl
          refine pure_ (i := 14) (N := some 42) (v := ?_) (a' := ?_) #[true, true, true, true, false, false, false, true, true, true, false, false, false, true, true, false, false, false, false, false, false, false, false, false, false, false, false] rfl rfl (any_of HT_.out (by kernel_rfl)) (fun _ _ _ h => h) (Or.inl ⟨by rfl, ?_⟩) ?_ ?_
          rotate_left
          ·intro w'
           go_simp
           with_reducible rfl
          rotate_left
          ·simp only [Act.put, List.setIfInBounds_toArray, List.set_cons_zero, List.set_cons_succ, i64_w, i32_w]
           rfl
          refine pure_ (i := 15) (N := some 43) (v := ?_) (a' := ?_) #[true, true, true, true, false, false, false, true, true, true, false, false, false, true, true, true, false, false, false, false, false, false, false, false, false, false, false] rfl rfl (any_of HT_.out (by kernel_rfl)) (fun _ _ _ h => h) (Or.inl ⟨by rfl, ?_⟩) ?_ ?_
          rotate_left
          ·intro w'
           go_simp
           with_reducible rfl
          rotate_left
          ·simp only [Act.put, List.setIfInBounds_toArray, List.set_cons_zero, List.set_cons_succ, i64_w, i32_w]
           rfl
          refine pure_ (i := 19) (N := some 47) (v := ?_) (a' := ?_) #[true, true, true, true, false, false, false, true, true, true, false, false, false, true, true, true, false, false, false, true, false, false, false, false, false, false, false] rfl rfl (any_of HT_.out (by kernel_rfl)) (fun _ _ _ h => h) (Or.inl ⟨by rfl, ?_⟩) ?_ ?_
          rotate_left
          ·intro w'
           go_simp
           with_reducible rfl
          rotate_left
          ·simp only [Act.put, List.setIfInBounds_toArray, List.set_cons_zero, List.set_cons_succ, i64_w, i32_w]
           rfl
          refine pure_ (i := 20) (N := some 48) (v := ?_) (a' := ?_) #[true, true, true, true, false, false, false, true, true, true, false, false, false, true, true, true, false, false, false, true, true, false, false, false, false, false, false] rfl rfl (any_of HT_.out (by kernel_rfl)) (fun _ _ _ h => h) (Or.inl ⟨by rfl, ?_⟩) ?_ ?_
          rotate_left
          ·intro w'
           go_simp
           with_reducible rfl
          rotate_left
          ·simp only [Act.put, List.setIfInBounds_toArray, List.set_cons_zero, List.set_cons_succ, i64_w, i32_w]
           rfl
          refine pure_ (i := 21) (N := some 49) (v := ?_) (a' := ?_) #[true, true, true, true, false, false, false, true, true, true, false, false, false, true, true, true, false, false, false, true, true, true, false, false, false, false, false] rfl rfl (any_of HT_.out (by kernel_rfl)) (fun _ _ _ h => h) (Or.inl ⟨by rfl, ?_⟩) ?_ ?_
          rotate_left
          ·intro w'
           go_simp
           with_reducible rfl
          rotate_left
          ·simp only [Act.put, List.setIfInBounds_toArray, List.set_cons_zero, List.set_cons_succ, i64_w, i32_w]
           rfl
          refine take_ (i := 4) (N := some 32) (v := ?_) (a' := ?_) #[true, true, true, true, true, false, false, true, true, true, false, false, false, true, true, true, false, false, false, true, true, true, false, false, false, false, false] rfl rfl (take_ofW HT_.out HW_.out (by kernel_rfl)) (fun _ _ _ h => h) (Or.inl ⟨by rfl, ?_⟩) hHeld ?_ ?_
          rotate_left
          ·rintro w' ⟨s0, s1, s2, s3⟩
           go_simp
           with_reducible rfl
          rotate_left
          ·simp only [Act.put, List.setIfInBounds_toArray, List.set_cons_zero, List.set_cons_succ, i64_w, i32_w]
           rfl
          refine pure_ (i := 5) (N := some 33) (v := ?_) (a' := ?_) #[true, true, true, true, true, true, false, true, true, true, false, false, false, true, true, true, false, false, false, true, true, true, false, false, false, false, false] rfl rfl (any_of HT_.out (by kernel_rfl)) (fun _ _ _ h => h) (Or.inl ⟨by rfl, ?_⟩) ?_ ?_
          rotate_left
          ·intro w'
           go_simp
           with_reducible rfl
          rotate_left
          ·simp only [Act.put, List.setIfInBounds_toArray, List.set_cons_zero, List.set_cons_succ, i64_w, i32_w]
           rfl
          refine pure_ (i := 6) (N := some 34) (v := ?_) (a' := ?_) #[true, true, true, true, true, true, true, true, true, true, false, false, false, true, true, true, false, false, false, true, true, true, false, false, false, false, false] rfl rfl (any_of HT_.out (by kernel_rfl)) (fun _ _ _ h => h) (Or.inl ⟨by rfl, ?_⟩) ?_ ?_
          rotate_left
          ·intro w'
           go_simp
           with_reducible rfl
          rotate_left
          ·simp only [Act.put, List.setIfInBounds_toArray, List.set_cons_zero, List.set_cons_succ, i64_w, i32_w]
           rfl
          refine take_ (i := 10) (N := some 38) (v := ?_) (a' := ?_) #[true, true, true, true, true, true, true, true, true, true, true, false, false, true, true, true, false, false, false, true, true, true, false, false, false, false, false] rfl rfl (take_ofW HT_.out HW_.out (by kernel_rfl)) (fun _ _ _ h => h) (Or.inl ⟨by rfl, ?_⟩) hHeld ?_ ?_
          rotate_left
          ·rintro w' ⟨s0, s1, s2, s3⟩
           go_simp
           with_reducible rfl
          rotate_left
          ·simp only [Act.put, List.setIfInBounds_toArray, List.set_cons_zero, List.set_cons_succ, i64_w, i32_w]
           rfl
          refine pure_ (i := 11) (N := some 39) (v := ?_) (a' := ?_) #[true, true, true, true, true, true, true, true, true, true, true, true, false, true, true, true, false, false, false, true, true, true, false, false, false, false, false] rfl rfl (any_of HT_.out (by kernel_rfl)) (fun _ _ _ h => h) (Or.inl ⟨by rfl, ?_⟩) ?_ ?_
          rotate_left
          ·intro w'
           go_simp
           with_reducible rfl
          rotate_left
          ·simp only [Act.put, List.setIfInBounds_toArray, List.set_cons_zero, List.set_cons_succ, i64_w, i32_w]
           rfl
          refine pure_ (i := 12) (N := some 40) (v := ?_) (a' := ?_) #[true, true, true, true, true, true, true, true, true, true, true, true, true, true, true, true, false, false, false, true, true, true, false, false, false, false, false] rfl rfl (any_of HT_.out (by kernel_rfl)) (fun _ _ _ h => h) (Or.inl ⟨by rfl, ?_⟩) ?_ ?_
          rotate_left
          ·intro w'
           go_simp
           with_reducible rfl
          rotate_left
          ·simp only [Act.put, List.setIfInBounds_toArray, List.set_cons_zero, List.set_cons_succ, i64_w, i32_w]
           rfl
          refine take_ (i := 16) (N := some 44) (v := ?_) (a' := ?_) #[true, true, true, true, true, true, true, true, true, true, true, true, true, true, true, true, true, false, false, true, true, true, false, false, false, false, false] rfl rfl (take_ofW HT_.out HW_.out (by kernel_rfl)) (fun _ _ _ h => h) (Or.inl ⟨by rfl, ?_⟩) hHeld ?_ ?_
          rotate_left
          ·rintro w' ⟨s0, s1, s2, s3⟩
           go_simp
           with_reducible rfl
          rotate_left
          ·simp only [Act.put, List.setIfInBounds_toArray, List.set_cons_zero, List.set_cons_succ, i64_w, i32_w]
           rfl
          refine pure_ (i := 17) (N := some 45) (v := ?_) (a' := ?_) #[true, true, true, true, true, true, true, true, true, true, true, true, true, true, true, true, true, true, false, true, true, true, false, false, false, false, false] rfl rfl (any_of HT_.out (by kernel_rfl)) (fun _ _ _ h => h) (Or.inl ⟨by rfl, ?_⟩) ?_ ?_
          rotate_left
          ·intro w'
           go_simp
           with_reducible rfl
          rotate_left
          ·simp only [Act.put, List.setIfInBounds_toArray, List.set_cons_zero, List.set_cons_succ, i64_w, i32_w]
           rfl
          refine pure_ (i := 18) (N := some 46) (v := ?_) (a' := ?_) #[true, true, true, true, true, true, true, true, true, true, true, true, true, true, true, true, true, true, true, true, true, true, false, false, false, false, false] rfl rfl (any_of HT_.out (by kernel_rfl)) (fun _ _ _ h => h) (Or.inl ⟨by rfl, ?_⟩) ?_ ?_
          rotate_left
          ·intro w'
           go_simp
           with_reducible rfl
          rotate_left
          ·simp only [Act.put, List.setIfInBounds_toArray, List.set_cons_zero, List.set_cons_succ, i64_w, i32_w]
           rfl
          refine take_ (i := 22) (N := some 50) (v := ?_) (a' := ?_) #[true, true, true, true, true, true, true, true, true, true, true, true, true, true, true, true, true, true, true, true, true, true, true, false, false, false, false] rfl rfl (take_ofW HT_.out HW_.out (by kernel_rfl)) (fun _ _ _ h => h) (Or.inl ⟨by rfl, ?_⟩) hHeld ?_ ?_
          rotate_left
          ·rintro w' ⟨s0, s1, s2, s3⟩
           go_simp
           with_reducible rfl
          rotate_left
          ·simp only [Act.put, List.setIfInBounds_toArray, List.set_cons_zero, List.set_cons_succ, i64_w, i32_w]
           rfl
          refine pure_ (i := 23) (N := some 51) (v := ?_) (a' := ?_) #[true, true, true, true, true, true, true, true, true, true, true, true, true, true, true, true, true, true, true, true, true, true, true, true, false, false, false] rfl rfl (any_of HT_.out (by kernel_rfl)) (fun _ _ _ h => h) (Or.inl ⟨by rfl, ?_⟩) ?_ ?_
          rotate_left
          ·intro w'
           go_simp
           with_reducible rfl
          rotate_left
          ·simp only [Act.put, List.setIfInBounds_toArray, List.set_cons_zero, List.set_cons_succ, i64_w, i32_w]
           rfl
          refine one_ (i := 24) (N := some 52) #[true, true, true, true, true, true, true, true, true, true, true, true, true, true, true, true, true, true, true, true, true, true, true, true, true, false, false] rfl rfl (one_of HT_.out (by kernel_rfl)) (by decide) (fun K hK => ?_)
          refine Kd.R_lit_step (Kd.int .u8) _ 5 ?hg (N := 52) ?hd (xs := ([((rd x3_1 x7_2) / 16777216) % 256, ((rd x3_1 x7_2) / 65536) % 256, ((rd x3_1 x7_2) / 256) % 256, (rd x3_1 x7_2) % 256] : List Int)) (inner := [.int .u8 (((rd x3_1 x7_2) / 16777216) % 256), .int .u8 (((rd x3_1 x7_2) / 65536) % 256), .int .u8 (((rd x3_1 x7_2) / 256) % 256), .int .u8 ((rd x3_1 x7_2) % 256)]) (ok := fun _ => True) (okp := fun _ => True) ?hr ?hp (fun _ hk => hk) trivial (Below.refl _ _) (Nat.le_refl _) (by simp) ?_; (case hd => rfl); (case hg => rfl); (case hr => first | (go_simp; done) | (go_simp; rfl)); (case hp => exact (Reps.one (show Kd.M (Kd.int .u8) _ _ _ (((rd x3_1 x7_2) / 16777216) % 256) [.int .u8 (((rd x3_1 x7_2) / 16777216) % 256)] from rfl) (Reps.one (show Kd.M (Kd.int .u8) _ _ _ (((rd x3_1 x7_2) / 65536) % 256) [.int .u8 (((rd x3_1 x7_2) / 65536) % 256)] from rfl) (Reps.one (show Kd.M (Kd.int .u8) _ _ _ (((rd x3_1 x7_2) / 256) % 256) [.int .u8 (((rd x3_1 x7_2) / 256) % 256)] from rfl) (Reps.one (show Kd.M (Kd.int .u8) _ _ _ ((rd x3_1 x7_2) % 256) [.int .u8 ((rd x3_1 x7_2) % 256)] from rfl) (Reps.none _ _))))))
          intro v424 w22 ho23 hb hg_ hnew_
          have HS0_ := (hb.cell (World.block_lt_of_cell? _ _ (hHeld.1))).trans (hHeld.1)
          have HS1_ := (hb.cell (World.block_lt_of_cell? _ _ (hHeld.2.1))).trans (hHeld.2.1)
          have HS2_ := (hb.cell (World.block_lt_of_cell? _ _ (hHeld.2.2.1))).trans (hHeld.2.2.1)
          have HS3_ := (hb.cell (World.block_lt_of_cell? _ _ (hHeld.2.2.2))).trans (hHeld.2.2.2)
          clear hg_ hnew_
          (first | rw [← Ny423.out] at ho23 | (simp only [Int.reduceToNat] at ho23; rw [← Ny423.out] at ho23))
          have n0_ := Aside0.mk (Kd.R_below (by (with_reducible repeat (first | apply Kd.R_alloc | apply Kd.R_drewN | apply Kd.R_drew)); exact HO_3.out) hb)
          have n1_ := Aside0.mk (Kd.R_elder' (by (with_reducible repeat (first | apply Kd.R_alloc | apply Kd.R_drewN | apply Kd.R_drew)); exact HO_6.out) (Kd.R_base ho23) hb)
          have n2_ := Aside0.mk (Kd.R_lower (Kd.R_new' ho23 (Kd.R_lt (by (with_reducible repeat (first | apply Kd.R_alloc | apply Kd.R_drewN | apply Kd.R_drew)); exact HO_6.out))) (below_size (by repeat (first | (with_reducible first | exact HB.out | apply below_alloc | apply pw_below_drewN | apply below_drew1) | exact HB.out))))
          have n3_ := Aside0.mk (below_step (by repeat (first | (with_reducible first | exact HB.out | apply below_alloc | apply pw_below_drewN | apply below_drew1) | exact HB.out)) hb)
          clear HO_3
          clear HO_6
          clear HB
          have HO_3 := n0_
          have HO_6 := n1_
          have HO425 := n2_
          have HB := n3_
          clear n0_ n1_ n2_ n3_
          clear hb ho23
          obtain ⟨Ao25, co25, eo25⟩ := Kd.R_slice HO425.out
          (first | subst eo25 | (injection eo25 with f1_ f2_ f3_; have f4_ := f1_.symm; have f5_ := f3_.symm; clear f1_ f2_ f3_; subst f4_; subst f5_))
          refine hK.out _ _ ⟨HS0_, HS1_, HS2_, HS3_⟩ (fun hHeld => ?_)
          clear hK K
          refine norm_ (a' := ?_) ?_ ?_
          rotate_left
          ·show Act.put _ (some 52) _ = _
           simp only [Act.put, List.setIfInBounds_toArray, List.set_cons_zero, List.set_cons_succ, i64_w, i32_w]
           rfl
          refine last_ (i := 25) (N := some 53) #[true, true, true, true, true, true, true, true, true, true, true, true, true, true, true, true, true, true, true, true, true, true, true, true, true, true, false] rfl rfl (one_of HT_.out (by kernel_rfl)) (by decide) (fun K hK => ?_)
          refine Kd.R_append_rows_step (Kd.int .u8) (w0 := w) w.heap.size (by rfl) (.tmp 28) (.tmp 52) 46 5 (.int .u8 0) 1 rfl Tryd.underlying46 info5 rfl (by decide) (by omega) u6 x6_2 y423 _ _ _ (fun k_ => some k_ ≠ (.slice Ao25 y423.length co25 : Value).ownBlock) (fun _ => False) rfl rfl ?aO ?aR (fun _ _ h => h) (fun _ h => h.elim) ?aF ?aB ?aS ?aL ?_
          (case aR => repeat (first | exact (Kd.R_reads' HO425.out).2.2 | (with_reducible refine Kd.C_alloc ?_ _) | (with_reducible refine Kd.C_drewN ?_ _) | (with_reducible refine Kd.C_drew ?_)))
          (case aB => exact (by repeat (first | (with_reducible first | exact HB.out | apply below_alloc | apply pw_below_drewN | apply below_drew1) | exact HB.out)))
          (case aF => exact (fun k_ hk => Kd.fresh' (Kd.R_lt (by (with_reducible repeat (first | apply Kd.R_alloc | apply Kd.R_drewN | apply Kd.R_drew)); exact HO425.out)) k_ hk))
          (case aO => exact (by (with_reducible repeat (first | apply Kd.R_alloc | apply Kd.R_drewN | apply Kd.R_drew)); exact Kd.R_mono HO_6.out (fun _ hk => hk.2)))
          (case aS => exact (below_size (by repeat (first | (with_reducible first | exact HB.out | apply below_alloc | apply pw_below_drewN | apply below_drew1) | exact HB.out))))
          (case aL => have := LMc19.out; omega)
          intro v427 w24 ho hb hg hat
          rw [← Ny426.out] at ho
          have n0_ := Aside0.mk (Kd.R_over' (by (with_reducible repeat (first | apply Kd.R_alloc | apply Kd.R_drewN | apply Kd.R_drew)); exact HO_3.out) (Kd.R_typed (by (with_reducible repeat (first | apply Kd.R_alloc | apply Kd.R_drewN | apply Kd.R_drew)); exact HO_6.out)) (by decide) hg)
          have n1_ := Aside0.mk (Kd.R_after (ok := (fun _ => True)) (by (with_reducible repeat (first | apply Kd.R_alloc | apply Kd.R_drewN | apply Kd.R_drew)); exact HO425.out) hg hat)
          have n2_ := Aside0.mk (hb)
          have n3_ := Aside0.mk (ho)
          clear HO_3
          clear HO425
          clear HB
          clear HO_6
          have HO_3 := n0_
          have HO425 := n1_
          have HB := n2_
          have HO428 := n3_
          clear n0_ n1_ n2_ n3_
          clear ho hb hg hat
          refine hK.out _ _ ?_
          clear hK K
          refine norm_ (a' := ?_) ?_ ?_
          rotate_left
          ·show Act.put _ (some 53) _ = _
           simp only [Act.put, List.setIfInBounds_toArray, List.set_cons_zero, List.set_cons_succ, i64_w, i32_w]
           rfl
          refine pure_ (i := 26) (N := some 6) (v := ?_) (a' := ?_) #[true, true, true, true, true, true, true, true, true, true, true, true, true, true, true, true, true, true, true, true, true, true, true, true, true, true, true] rfl rfl (any_of HT_.out (by kernel_rfl)) (fun _ _ _ h => h) (Or.inl ⟨by rfl, ?_⟩) ?_ ?_
          rotate_left
          ·intro w'
           go_simp
           with_reducible rfl
          rotate_left
          ·simp only [Act.put, List.setIfInBounds_toArray, List.set_cons_zero, List.set_cons_succ, i64_w, i32_w]
           rfl
          refine done_ (done_of HT_.out (by kernel_rfl)) ?_
          try go_wp2
          go_roundg k2
          case measure => have := HK1.out; have := HK2.out; omega
          case rel => exact ⟨(y426), (wrap64 (x7_2 + 1)), (by first | rfl | (simp; done) | (simp [*]; done)), H', ⟨by have := HK1.out; have := HK2.out; omega⟩, ⟨by (with_reducible repeat (first | apply Kd.R_alloc | apply Kd.R_drewN | apply Kd.R_drew)); exact HO_3.out⟩, ⟨by (with_reducible repeat (first | apply Kd.R_alloc | apply Kd.R_drewN | apply Kd.R_drew)); exact Kd.R_mono HO428.out (fun _ hk => trivial)⟩, ⟨by repeat (first | (with_reducible first | exact HB.out | apply below_alloc | apply pw_below_drewN | apply below_drew1) | exact HB.out)⟩⟩
         ·rw [if_neg c19] at H
          exact absurd H (by simp)
        ·rw [if_neg c18] at H
         exact absurd H (by simp)
       ·rw [if_neg c17] at H
        exact absurd H (by simp)
      ·rw [if_neg c16] at H
       have c16b0 : decide (x7_2 < 8) = false := decide_eq_false c16
       clear c16
       obtain rfl := Option.some.inj H
       have hcv26 := own_string (P := Tryd.prog) Tryd.underlying46 Tryd.underlying5 Tryd.underlying9 (Kd.own_of_R HO_6.out)
       go_wp2
       go_ret
       exact ⟨by first | rfl | (simp [errW_none, errW_some] <;> rfl) | (simp [*, errW_none, errW_some] <;> rfl), by repeat (first | (with_reducible first | exact HB.out | apply below_alloc | apply pw_below_drewN | apply below_drew1) | exact HB.out)⟩
end Go.Proofs.YtlmlimihgohchaaDoor.PD
end
section
/-
  The reference's digest is the digest.
-/
set_option linter.unusedVariables false
set_option linter.unusedSimpArgs false
namespace Go.Proofs.YtlmlimihgohchaaDoor.RefSpec
open Go.RowKit Go.Proofs.YtlmlimihgohchaaDoorW.PrintWords Go.Proofs.YtlmlimihgohchaaDoorW.PrintLast Go.Proofs.YtlmlimihgohchaaDoorW.PrintMore Go.Proofs.YtlmlimihgohchaaDoor.Ext Go.Proofs.YtlmlimihgohchaaDoor.PD Go.Proofs.YtlmlimihgohchaaDoor.DigSpec
theorem w64 {x : Int} (h1 : -9223372036854775808 ≤ x) (h2 : x < 9223372036854775808) : wrap64 x = x := DigSpec.w64 h1 h2
/-- numbers as the machine's -/
abbrev I (l : List Nat) : List Int := l.map fun n : Nat => (n : Int)
theorem rd_I (l : List Nat) (j : Nat) (h : j < l.length) : rd (I l) (j : Int) = ((l.getD j 0 : Nat) : Int) := by
  unfold rd
  simp [List.getD_eq_getElem?_getD, h]
theorem I_snoc (l : List Nat) (x : Nat) : I l ++ [(x : Int)] = I (l ++ [x]) := by simp
theorem I_len (l : List Nat) : (I l).length = l.length := List.length_map _
theorem rotated_is (x n : Nat) (hx : x < 4294967296) (h0 : 0 < n) (hn : n < 32) (z : Int) (hz : z = (n : Int)) : aircheckref02_rotated.f (x : Int) z = some ((Sha.rot x n : Nat) : Int) := by
  subst hz
  have e1 : wrap64 (32 - (n : Int)) = ((32 - n : Nat) : Int) := by unfold wrap64; omega
  unfold aircheckref02_rotated.f
  rw [e1, if_pos (by omega), if_pos (by omega)]
  have s1 : shl .u32 (x : Int) ((32 - n : Nat) : Int) = (((x <<< (32 - n)) % 4294967296 : Nat) : Int) := by
    unfold shl
    rw [show min ((32 - n : Nat) : Int).toNat IntKind.u32.bits = 32 - n by simp [IntKind.bits], show ((2 : Int) ^ (32 - n)) = ((2 ^ (32 - n) : Nat) : Int) by simp, ← Int.natCast_mul, IntKind.wrap_u32, Nat.shiftLeft_eq]
    omega
  have s2 : shr .u32 (x : Int) (n : Int) = ((x >>> n : Nat) : Int) := by
    unfold shr
    rw [show min ((n : Nat) : Int).toNat IntKind.u32.bits = n by simp [IntKind.bits]; omega, show ((2 : Int) ^ n) = ((2 ^ n : Nat) : Int) by simp, Nat.shiftRight_eq_div_pow]
    rfl
  rw [s1, s2, u32_or_nat _ _ (Nat.lt_of_le_of_lt (Nat.shiftRight_le _ _) hx) (Nat.mod_lt _ (by decide))]
  rfl
theorem word_lt (a b c d : Nat) (ha : a < 256) (hb : b < 256) (hc : c < 256) (hd : d < 256) : word a b c d < 4294967296 := by
  unfold word
  have e (x n : Nat) (hx : x < 256) (hn : n ≤ 24) : x <<< n < 4294967296 := by
    rw [Nat.shiftLeft_eq]
    have : 2 ^ n ≤ 2 ^ 24 := Nat.pow_le_pow_right (by decide) hn
    calc x * 2 ^ n ≤ 255 * 2 ^ n := Nat.mul_le_mul_right _ (by omega)
      _ ≤ 255 * 2 ^ 24 := Nat.mul_le_mul_left _ this
      _ < 4294967296 := by decide
  exact or_lt (or_lt (or_lt (e a 24 ha (by omega)) (e b 16 hb (by omega))) (e c 8 hc (by omega))) (by omega)
theorem getD_lt {l : List Nat} {m : Nat} (h : ∀ x ∈ l, x < m) (hm : 0 < m) (j : Nat) : l.getD j 0 < m := by
  rw [List.getD_eq_getElem?_getD]
  cases e : l[j]? with
  | none => simpa using hm
  | some x => exact h x (List.mem_of_getElem? e)
theorem wordAt_lt {b : List Nat} (h : ∀ x ∈ b, x < 256) (j : Nat) : wordAt b j < 4294967296 :=
  word_lt _ _ _ _ (getD_lt h (by decide) _) (getD_lt h (by decide) _) (getD_lt h (by decide) _) (getD_lt h (by decide) _)
theorem grow_lt {b : List Nat} (h : ∀ x ∈ b, x < 256) (m : Nat) : ∀ x ∈ grow b m, x < 4294967296 := by
  induction m with
  | zero =>
    intro x hx
    obtain ⟨j, _, rfl⟩ := List.mem_map.1 hx
    exact wordAt_lt h j
  | succ m ih =>
    intro x hx
    rcases List.mem_append.1 hx with hx | hx
    · exact ih x hx
    · rw [List.mem_singleton.1 hx]; exact Nat.mod_lt _ (by decide)
theorem block_l0 (h b : List Nat) (hb : b.length = 64) (hlt : ∀ x ∈ b, x < 256) (k : Nat) : ∀ (d j : Nat), j + d = 16 →
    aircheckref02_block.l0 (k + d + 1) (I h) (I b) (I ((List.range j).map (wordAt b))) (j : Int) = aircheckref02_block.l1 k (I h) (I (grow b 0)) 16 := by
  intro d
  induction d with
  | zero =>
    intro j hj
    obtain rfl : j = 16 := by omega
    rw [aircheckref02_block.l0, if_neg (by omega)]
    rfl
  | succ d ih =>
    intro j hj
    have e0 : wrap64 (4 * (j : Int)) = ((4 * j : Nat) : Int) := by rw [w64 (by omega) (by omega)]; omega
    have e1 : wrap64 (((4 * j : Nat) : Int) + 1) = ((4 * j + 1 : Nat) : Int) := by rw [w64 (by omega) (by omega)]; omega
    have e2 : wrap64 (((4 * j : Nat) : Int) + 2) = ((4 * j + 2 : Nat) : Int) := by rw [w64 (by omega) (by omega)]; omega
    have e3 : wrap64 (((4 * j : Nat) : Int) + 3) = ((4 * j + 3 : Nat) : Int) := by rw [w64 (by omega) (by omega)]; omega
    have e4 : wrap64 ((j : Int) + 1) = ((j + 1 : Nat) : Int) := by rw [w64 (by omega) (by omega)]; omega
    have hw := word_is _ _ _ _ (getD_lt hlt (by decide) (4 * j)) (getD_lt hlt (by decide) (4 * j + 1)) (getD_lt hlt (by decide) (4 * j + 2)) (getD_lt hlt (by decide) (4 * j + 3))
    simp only [IntKind.wrap_u32] at hw
    rw [show k + (d + 1) + 1 = (k + d + 1) + 1 by omega, aircheckref02_block.l0, e0, e1, e2, e3, e4, I_len, hb, if_pos (by omega), if_pos (by omega), if_pos (by omega), if_pos (by omega), if_pos (by omega), if_pos (by omega), if_pos (by omega), if_pos (by omega), if_pos (by omega), if_pos (by simp; omega),
      rd_I b _ (by omega), rd_I b _ (by omega), rd_I b _ (by omega), rd_I b _ (by omega), hw, I_snoc]
    rw [show (List.range j).map (wordAt b) ++ [word (b.getD (4 * j) 0) (b.getD (4 * j + 1) 0) (b.getD (4 * j + 2) 0) (b.getD (4 * j + 3) 0)] = (List.range (j + 1)).map (wordAt b) by rw [List.range_succ, List.map_append]; rfl]
    exact ih (j + 1) (by omega)
theorem mix2 (x a b : Nat) : ShaSpec.mix x [a, b] = Sha.rot x a ^^^ Sha.rot x b := by simp only [ShaSpec.mix, List.foldl_cons, List.foldl_nil, Nat.zero_xor]
theorem mix3 (x a b c : Nat) : ShaSpec.mix x [a, b, c] = Sha.rot x a ^^^ Sha.rot x b ^^^ Sha.rot x c := by simp only [ShaSpec.mix, List.foldl_cons, List.foldl_nil, Nat.zero_xor]
theorem shr3 (x : Nat) : ((x : Int) / (8 : Int)) = ((x >>> 3 : Nat) : Int) := by rw [Nat.shiftRight_eq_div_pow]; rfl
theorem shr10 (x : Nat) : ((x : Int) / (1024 : Int)) = ((x >>> 10 : Nat) : Int) := by rw [Nat.shiftRight_eq_div_pow]; rfl
theorem shr_lt {x : Nat} (n : Nat) (h : x < 4294967296) : x >>> n < 4294967296 := Nat.lt_of_le_of_lt (Nat.shiftRight_le _ _) h
theorem constants_is : aircheckref02_constants.f = some (I Sha.kk) := by decide +kernel
theorem block_l1 (h b : List Nat) (hh : h.length = 8) (hlt : ∀ x ∈ b, x < 256) (k : Nat) : ∀ (d m : Nat), m + d = 48 →
    aircheckref02_block.l1 (k + d + 1) (I h) (I (grow b m)) ((16 + m : Nat) : Int) = aircheckref02_block.l2 k (I h) (I (grow b 48)) (I Sha.kk) (I h) 0 := by
  intro d
  induction d with
  | zero =>
    intro m hm
    obtain rfl : m = 48 := by omega
    rw [aircheckref02_block.l1, if_neg (by omega), constants_is, Option.bind_some, if_pos (by simp [hh]), List.nil_append]
  | succ d ih =>
    intro m hm
    have hg := grow_len b m
    have hl := grow_lt hlt m
    have e15 : wrap64 (((16 + m : Nat) : Int) - 15) = ((m + 1 : Nat) : Int) := by rw [w64 (by omega) (by omega)]; omega
    have e2 : wrap64 (((16 + m : Nat) : Int) - 2) = ((m + 14 : Nat) : Int) := by rw [w64 (by omega) (by omega)]; omega
    have e16 : wrap64 (((16 + m : Nat) : Int) - 16) = ((m : Nat) : Int) := by rw [w64 (by omega) (by omega)]; omega
    have e7 : wrap64 (((16 + m : Nat) : Int) - 7) = ((m + 9 : Nat) : Int) := by rw [w64 (by omega) (by omega)]; omega
    have e1 : wrap64 (((16 + m : Nat) : Int) + 1) = ((16 + (m + 1) : Nat) : Int) := by rw [w64 (by omega) (by omega)]; omega
    have hp := getD_lt hl (by decide) (m + 1)
    have hq := getD_lt hl (by decide) (m + 14)
    rw [show k + (d + 1) + 1 = (k + d + 1) + 1 by omega, aircheckref02_block.l1, e15, e2, e16, e7, e1, I_len, hg, if_pos (by omega), if_pos (by omega), if_pos (by omega),
      rd_I _ (m + 1) (by omega), rd_I _ (m + 14) (by omega), rd_I _ m (by omega), rd_I _ (m + 9) (by omega),
      rotated_is _ 7 hp (by decide) (by decide) 7 rfl, Option.bind_some, rotated_is _ 18 hp (by decide) (by decide) 18 rfl, Option.bind_some, if_pos (by omega), if_pos (by omega),
      rotated_is _ 17 hq (by decide) (by decide) 17 rfl, Option.bind_some, rotated_is _ 19 hq (by decide) (by decide) 19 rfl, Option.bind_some, if_pos (by omega), if_pos (by omega), if_pos (by omega), if_pos (by omega), if_pos (by omega),
      u32_xor_nat _ _ (ShaSpec.rot_lt _ _ hp) (ShaSpec.rot_lt _ _ hp), u32_xor_nat _ _ (ShaSpec.rot_lt _ _ hq) (ShaSpec.rot_lt _ _ hq), shr3, shr10,
      u32_xor_nat _ _ (ShaSpec.xor_lt (ShaSpec.rot_lt _ _ hp) (ShaSpec.rot_lt _ _ hp)) (shr_lt 3 hp), u32_xor_nat _ _ (ShaSpec.xor_lt (ShaSpec.rot_lt _ _ hq) (ShaSpec.rot_lt _ _ hq)) (shr_lt 10 hq)]
    have en : next (grow b m) = ((grow b m).getD m 0 + (Sha.rot ((grow b m).getD (m + 1) 0) 7 ^^^ Sha.rot ((grow b m).getD (m + 1) 0) 18 ^^^ (grow b m).getD (m + 1) 0 >>> 3) + (grow b m).getD (m + 9) 0 + (Sha.rot ((grow b m).getD (m + 14) 0) 17 ^^^ Sha.rot ((grow b m).getD (m + 14) 0) 19 ^^^ (grow b m).getD (m + 14) 0 >>> 10)) % 4294967296 := by
      unfold next
      rw [hg, mix2, mix2, show 16 + m - 16 = m by omega, show 16 + m - 15 = m + 1 by omega, show 16 + m - 7 = m + 9 by omega, show 16 + m - 2 = m + 14 by omega]
    have ei : (((((((grow b m).getD m 0 : Nat) : Int) + ((Sha.rot ((grow b m).getD (m + 1) 0) 7 ^^^ Sha.rot ((grow b m).getD (m + 1) 0) 18 ^^^ (grow b m).getD (m + 1) 0 >>> 3 : Nat) : Int)) % (4294967296 : Int) + (((grow b m).getD (m + 9) 0 : Nat) : Int)) % (4294967296 : Int) + ((Sha.rot ((grow b m).getD (m + 14) 0) 17 ^^^ Sha.rot ((grow b m).getD (m + 14) 0) 19 ^^^ (grow b m).getD (m + 14) 0 >>> 10 : Nat) : Int)) % (4294967296 : Int)) = ((next (grow b m) : Nat) : Int) := by
      rw [en]
      generalize Sha.rot ((grow b m).getD (m + 1) 0) 7 ^^^ Sha.rot ((grow b m).getD (m + 1) 0) 18 ^^^ (grow b m).getD (m + 1) 0 >>> 3 = A
      generalize Sha.rot ((grow b m).getD (m + 14) 0) 17 ^^^ Sha.rot ((grow b m).getD (m + 14) 0) 19 ^^^ (grow b m).getD (m + 14) 0 >>> 10 = B
      omega
    rw [ei, I_snoc]
    exact ih (m + 1) (by omega)
theorem lst_len (s : Sha.St) : (lst s).length = 8 := rfl
theorem block_l2 (h W : List Nat) (s : Sha.St) (hs : Bd s) (hW : W.length = 64) (k : Nat) : ∀ (d i : Nat), i + d = 64 →
    aircheckref02_block.l2 (k + d + 1) (I h) (I W) (I Sha.kk) (I (lst (upto i W s))) (i : Int) = aircheckref02_block.l3 k (I h) (I (lst (upto 64 W s))) [] 0 := by
  intro d
  induction d with
  | zero =>
    intro i hi
    obtain rfl : i = 64 := by omega
    rw [aircheckref02_block.l2, if_neg (by omega)]
  | succ d ih =>
    intro i hi
    have hbd := upto_bd W s hs hW i (by omega)
    have hsucc := upto_succ i W s (by omega) hW
    have e1 : wrap64 ((i : Int) + 1) = ((i + 1 : Nat) : Int) := by rw [w64 (by omega) (by omega)]; omega
    have hk := rd_I Sha.kk i (by rw [kk_len]; omega)
    have hw := rd_I W i (by omega)
    generalize upto i W s = v at *
    generalize Sha.kk.getD i 0 = kx at *
    generalize W.getD i 0 = wx at *
    have r0 : rd (I (lst v)) 0 = (v.a : Int) := rfl
    have r1 : rd (I (lst v)) 1 = (v.b : Int) := rfl
    have r2 : rd (I (lst v)) 2 = (v.c : Int) := rfl
    have r3 : rd (I (lst v)) 3 = (v.d : Int) := rfl
    have r4 : rd (I (lst v)) 4 = (v.e : Int) := rfl
    have r5 : rd (I (lst v)) 5 = (v.f : Int) := rfl
    have r6 : rd (I (lst v)) 6 = (v.g : Int) := rfl
    have r7 : rd (I (lst v)) 7 = (v.h : Int) := rfl
    have ht := t_is v kx wx hbd
    have hu := u_is v hbd
    have b1 := hbd.1
    have b5 := hbd.2.2.2.2.1
    rw [mix3] at ht hu
    simp only [IntKind.wrap_u32] at ht hu
    rw [show k + (d + 1) + 1 = (k + d + 1) + 1 by omega, aircheckref02_block.l2, e1, I_len, lst_len, I_len, kk_len, I_len, hW, hk, hw, r0, r1, r2, r3, r4, r5, r6, r7, if_pos (by omega), if_pos (by omega), if_pos (by omega), if_pos (by omega),
      rotated_is _ 6 b5 (by decide) (by decide) 6 rfl, Option.bind_some, rotated_is _ 11 b5 (by decide) (by decide) 11 rfl, Option.bind_some, rotated_is _ 25 b5 (by decide) (by decide) 25 rfl, Option.bind_some,
      if_pos (by omega), if_pos (by omega), if_pos (by omega), if_pos (by omega), if_pos (by omega),
      rotated_is _ 2 b1 (by decide) (by decide) 2 rfl, Option.bind_some, rotated_is _ 13 b1 (by decide) (by decide) 13 rfl, Option.bind_some, rotated_is _ 22 b1 (by decide) (by decide) 22 rfl, Option.bind_some,
      if_pos (by omega), if_pos (by omega), if_pos (by omega),
      u32_xor_nat _ _ (ShaSpec.rot_lt _ _ b5) (ShaSpec.rot_lt _ _ b5), u32_xor_nat _ _ (ShaSpec.xor_lt (ShaSpec.rot_lt _ _ b5) (ShaSpec.rot_lt _ _ b5)) (ShaSpec.rot_lt _ _ b5),
      u32_xor_nat _ _ (ShaSpec.rot_lt _ _ b1) (ShaSpec.rot_lt _ _ b1), u32_xor_nat _ _ (ShaSpec.xor_lt (ShaSpec.rot_lt _ _ b1) (ShaSpec.rot_lt _ _ b1)) (ShaSpec.rot_lt _ _ b1), ht, hu]
    have he : ([(((tOf v kx wx : Nat) : Int) + ((uOf v : Nat) : Int)) % (4294967296 : Int), (v.a : Int), (v.b : Int), (v.c : Int), ((v.d : Int) + ((tOf v kx wx : Nat) : Int)) % (4294967296 : Int), (v.e : Int), (v.f : Int), (v.g : Int)] : List Int) = I (lst (Sha.rnd v kx wx)) := by
      rw [rnd_is]
      simp
    rw [he, ← hsucc]
    exact ih (i + 1) (by omega)
theorem block_l3 (h v : List Nat) (hh : h.length = 8) (hv : v.length = 8) (k : Nat) : ∀ (d i : Nat), i + d = 8 →
    aircheckref02_block.l3 (k + d + 1) (I h) (I v) (I ((List.range i).map fun j => (h.getD j 0 + v.getD j 0) % 4294967296)) (i : Int) = some (I ((List.range 8).map fun j => (h.getD j 0 + v.getD j 0) % 4294967296)) := by
  intro d
  induction d with
  | zero =>
    intro i hi
    obtain rfl : i = 8 := by omega
    rw [aircheckref02_block.l3, if_neg (by omega)]
  | succ d ih =>
    intro i hi
    have e1 : wrap64 ((i : Int) + 1) = ((i + 1 : Nat) : Int) := by rw [w64 (by omega) (by omega)]; omega
    rw [show k + (d + 1) + 1 = (k + d + 1) + 1 by omega, aircheckref02_block.l3, e1, I_len, hh, I_len, hv, if_pos (by omega), if_pos (by omega), if_pos (by omega), if_pos (by omega), if_pos (by simp; omega), rd_I h i (by omega), rd_I v i (by omega)]
    rw [show (((h.getD i 0 : Nat) : Int) + ((v.getD i 0 : Nat) : Int)) % (4294967296 : Int) = (((h.getD i 0 + v.getD i 0) % 4294967296 : Nat) : Int) by omega, I_snoc]
    have := ih (i + 1) (by omega)
    rw [List.range_succ, List.map_append] at this
    exact this
theorem block_is (s : Sha.St) (hs : Bd s) (b : List Nat) (hb : b.length = 64) (hlt : ∀ x ∈ b, x < 256) (k : Nat) (hk : 140 ≤ k) : aircheckref02_block.f k (I (lst s)) (I b) = some (I (lst (Sha.block s b))) := by
  obtain ⟨q, rfl⟩ : ∃ q, k = ((((q + 8 + 1) + 64 + 1) + 48 + 1) + 16 + 1) := ⟨k - 140, by omega⟩
  have h0 := block_l0 (lst s) b hb hlt (((q + 8 + 1) + 64 + 1) + 48 + 1) 16 0 rfl
  have h1 := block_l1 (lst s) b rfl hlt ((q + 8 + 1) + 64 + 1) 48 0 rfl
  have h2 := block_l2 (lst s) (grow b 48) s hs (by rw [grow_len]) (q + 8 + 1) 64 0 rfl
  have h3 := block_l3 (lst s) (lst (upto 64 (grow b 48) s)) rfl rfl q 8 0 rfl
  unfold aircheckref02_block.f
  refine h0.trans (h1.trans (h2.trans (h3.trans ?_)))
  rw [upto_all _ _ (by rw [grow_len])]
  have ha : grow b 48 = (Sha.more 48 (Sha.words 16 b).reverse).reverse := by
    rw [← arr_all b hb]; simp [arr]
  rw [ha]
  rfl
theorem bt_I (s : ByteArray) (j : Nat) (h : j < s.size) : bt s (j : Int) = (((nat s).getD j 0 : Nat) : Int) := by
  have e : (nat s)[j]? = some (s.data[j]'h).toNat := by
    unfold nat
    rw [List.getElem?_map, Array.getElem?_toList, Array.getElem?_eq_getElem h]
    rfl
  rw [List.getD_eq_getElem?_getD, e]
  unfold bt
  simp only [Int.toNat_natCast, dif_pos h]
  rfl
theorem ext_l0 (s : ByteArray) (hs : s.size ≤ 1000000) (k : Nat) : ∀ (d j : Nat), j + d = s.size → aircheckref02_extended.l0 (k + d + 1) s (I ((nat s).take j)) (j : Int) = aircheckref02_extended.l1 k s (I (nat s ++ [128])) := by
  intro d
  induction d with
  | zero =>
    intro j hj
    rw [aircheckref02_extended.l0, if_neg (by omega), List.take_of_length_le (by rw [nat_length]; omega), if_pos (by rw [I_len, nat_length]; omega), show (128 : Int) = ((128 : Nat) : Int) from rfl, I_snoc]
  | succ d ih =>
    intro j hj
    rw [show k + (d + 1) + 1 = (k + d + 1) + 1 by omega, aircheckref02_extended.l0, if_pos (by omega), if_pos (by omega), if_pos (by rw [I_len, List.length_take, nat_length]; omega), bt_I s j (by omega), I_snoc, w64 (by omega) (by omega), show (j : Int) + 1 = ((j + 1 : Nat) : Int) by omega, ← take_snoc' (by rw [nat_length]; omega)]
    exact ih (j + 1) (by omega)
theorem ext_l1 (s : ByteArray) (hs : s.size ≤ 1000000) (k : Nat) : ∀ (d i : Nat), i + d = zeros s.size → aircheckref02_extended.l1 (k + d + 1) s (I (nat s ++ [128] ++ List.replicate i 0)) = aircheckref02_extended.l2 k s (I (nat s ++ [128] ++ List.replicate (zeros s.size) 0)) 7 := by
  intro d
  induction d with
  | zero =>
    intro i hi
    obtain rfl : i = zeros s.size := by omega
    have hl : ((I (nat s ++ [128] ++ List.replicate (zeros s.size) 0)).length : Int) % 64 = 56 := by
      rw [I_len, List.length_append, List.length_append, nat_length, List.length_replicate]
      unfold zeros
      simp only [List.length_singleton]
      omega
    rw [aircheckref02_extended.l1, if_pos hl]
  | succ d ih =>
    intro i hi
    have hl : ¬ ((I (nat s ++ [128] ++ List.replicate i 0)).length : Int) % 64 = 56 := by
      rw [I_len, List.length_append, List.length_append, nat_length, List.length_replicate]
      unfold zeros at hi
      simp only [List.length_singleton]
      omega
    have hz : zeros s.size < 64 := by unfold zeros; omega
    rw [show k + (d + 1) + 1 = (k + d + 1) + 1 by omega, aircheckref02_extended.l1, if_neg hl, if_pos (by rw [I_len, List.length_append, List.length_append, nat_length, List.length_replicate]; simp only [List.length_singleton]; omega), show (0 : Int) = ((0 : Nat) : Int) from rfl, I_snoc,
      show nat s ++ [128] ++ List.replicate i 0 ++ [0] = nat s ++ [128] ++ List.replicate (i + 1) 0 by rw [List.append_assoc, List.replicate_succ']]
    exact ih (i + 1) (by omega)
theorem shr64 (n i : Nat) (h : i ≤ 7) (hn : n ≤ 1000000) : (shr .i64 (wrap64 (8 * (n : Int))) (wrap64 (8 * (i : Int)))) % (256 : Int) = (((8 * n) / 2 ^ (8 * i) % 256 : Nat) : Int) := by
  rw [w64 (by omega) (by omega), w64 (by omega) (by omega)]
  unfold shr
  rw [show min ((8 * (i : Int))).toNat IntKind.i64.bits = 8 * i by rw [show (8 * (i : Int)).toNat = 8 * i by omega]; simp [IntKind.bits]; omega]
  simp
theorem ext_l2 (s : ByteArray) (hs : s.size ≤ 1000000) (L : List Nat) (hL : L.length ≤ 2000000) (k : Nat) : aircheckref02_extended.l2 (k + 9) s (I L) 7 = some (I (L ++ tail8 s.size)) := by
  have step (k i : Nat) (M : List Nat) (hi : i ≤ 7) (hM : M.length ≤ 3000000) : aircheckref02_extended.l2 (k + 1) s (I M) (i : Int) = aircheckref02_extended.l2 k s (I (M ++ [(8 * s.size) / 2 ^ (8 * i) % 256])) ((i : Int) - 1) := by
    rw [aircheckref02_extended.l2, if_pos (by omega), if_pos (by rw [w64 (by omega) (by omega)]; omega), if_pos (by rw [I_len]; omega), shr64 _ _ hi hs, I_snoc, w64 (x := (i : Int) - 1) (by omega) (by omega)]
  have h7 := step (k + 8) 7 L (by omega) (by omega)
  have h6 := step (k + 7) 6 (L ++ [(8 * s.size) / 2 ^ (8 * 7) % 256]) (by omega) (by simp; omega)
  have h5 := step (k + 6) 5 (L ++ [(8 * s.size) / 2 ^ (8 * 7) % 256] ++ [(8 * s.size) / 2 ^ (8 * 6) % 256]) (by omega) (by simp; omega)
  have h4 := step (k + 5) 4 (L ++ [(8 * s.size) / 2 ^ (8 * 7) % 256] ++ [(8 * s.size) / 2 ^ (8 * 6) % 256] ++ [(8 * s.size) / 2 ^ (8 * 5) % 256]) (by omega) (by simp; omega)
  have h3 := step (k + 4) 3 (L ++ [(8 * s.size) / 2 ^ (8 * 7) % 256] ++ [(8 * s.size) / 2 ^ (8 * 6) % 256] ++ [(8 * s.size) / 2 ^ (8 * 5) % 256] ++ [(8 * s.size) / 2 ^ (8 * 4) % 256]) (by omega) (by simp; omega)
  have h2 := step (k + 3) 2 (L ++ [(8 * s.size) / 2 ^ (8 * 7) % 256] ++ [(8 * s.size) / 2 ^ (8 * 6) % 256] ++ [(8 * s.size) / 2 ^ (8 * 5) % 256] ++ [(8 * s.size) / 2 ^ (8 * 4) % 256] ++ [(8 * s.size) / 2 ^ (8 * 3) % 256]) (by omega) (by simp; omega)
  have h1 := step (k + 2) 1 (L ++ [(8 * s.size) / 2 ^ (8 * 7) % 256] ++ [(8 * s.size) / 2 ^ (8 * 6) % 256] ++ [(8 * s.size) / 2 ^ (8 * 5) % 256] ++ [(8 * s.size) / 2 ^ (8 * 4) % 256] ++ [(8 * s.size) / 2 ^ (8 * 3) % 256] ++ [(8 * s.size) / 2 ^ (8 * 2) % 256]) (by omega) (by simp; omega)
  have h0 := step (k + 1) 0 (L ++ [(8 * s.size) / 2 ^ (8 * 7) % 256] ++ [(8 * s.size) / 2 ^ (8 * 6) % 256] ++ [(8 * s.size) / 2 ^ (8 * 5) % 256] ++ [(8 * s.size) / 2 ^ (8 * 4) % 256] ++ [(8 * s.size) / 2 ^ (8 * 3) % 256] ++ [(8 * s.size) / 2 ^ (8 * 2) % 256] ++ [(8 * s.size) / 2 ^ (8 * 1) % 256]) (by omega) (by simp; omega)
  refine h7.trans (h6.trans (h5.trans (h4.trans (h3.trans (h2.trans (h1.trans (h0.trans ?_)))))))
  rw [show ((0 : Nat) : Int) - 1 = -1 from rfl, aircheckref02_extended.l2, if_neg (by omega)]
  simp [tail8]
theorem extended_is (s : ByteArray) (hs : s.size ≤ 1000000) (k : Nat) (hk : s.size + 100 ≤ k) : aircheckref02_extended.f k s = some (I (nat s ++ Sha.pad s.size)) := by
  have hz : zeros s.size < 64 := by unfold zeros; omega
  obtain ⟨q, rfl⟩ : ∃ q, k = ((q + 9) + zeros s.size + 1) + s.size + 1 := ⟨k - (9 + zeros s.size + 1 + s.size + 1), by omega⟩
  have h0 := ext_l0 s hs ((q + 9) + zeros s.size + 1) s.size 0 (by omega)
  have h1 := ext_l1 s hs (q + 9) (zeros s.size) 0 (by omega)
  have h2 := ext_l2 s hs (nat s ++ [128] ++ List.replicate (zeros s.size) 0) (by rw [List.length_append, List.length_append, nat_length, List.length_replicate, List.length_singleton]; omega) q
  rw [List.replicate_zero, List.append_nil] at h1
  unfold aircheckref02_extended.f
  refine h0.trans (h1.trans (h2.trans ?_))
  rw [pad_is, List.append_assoc, List.append_assoc]
  rfl
theorem sum_l0 (p : List Nat) (n : Nat) (hp : p.length = 64 * n) (hn : n ≤ 1000000) (hlt : ∀ x ∈ p, x < 256) (k : Nat) (hk : 140 ≤ k) : ∀ (d i : Nat) (s : Sha.St), Bd s → i + d = n →
    aircheckref02_Sum.l0 (k + d + 1) (I (lst s)) (I p) ((64 * i : Nat) : Int) = aircheckref02_Sum.l1 k (I (lst (Sha.blocks d s (p.drop (64 * i))))) [] 0 := by
  intro d
  induction d with
  | zero =>
    intro i s hs hi
    rw [aircheckref02_Sum.l0, I_len, hp, if_neg (by omega)]
    rfl
  | succ d ih =>
    intro i s hs hi
    have e1 : wrap64 (((64 * i : Nat) : Int) + 64) = ((64 * (i + 1) : Nat) : Int) := by rw [w64 (by omega) (by omega)]; omega
    have e2 : ((I p).take (64 * (i + 1))).drop (64 * i) = I ((p.drop (64 * i)).take 64) := by
      rw [← List.map_take, ← List.map_drop, List.drop_take, show 64 * (i + 1) - 64 * i = 64 by omega]
    have hb : ((p.drop (64 * i)).take 64).length = 64 := by rw [List.length_take, List.length_drop]; omega
    rw [show k + (d + 1) + 1 = (k + d + 1) + 1 by omega, aircheckref02_Sum.l0, e1, I_len, hp, if_pos (by omega), if_pos (by omega), if_pos (by omega), if_pos (by omega), Int.toNat_natCast, Int.toNat_natCast, e2,
      block_is s hs _ hb (fun x hx => hlt x (List.mem_of_mem_drop (List.mem_of_mem_take hx))) (k + d + 1) (by omega), Option.bind_some, ih (i + 1) _ (block_bd _ _) (by omega)]
    rw [show p.drop (64 * (i + 1)) = (p.drop (64 * i)).drop 64 by rw [List.drop_drop]; rfl]
    rfl
def beOf (x : Nat) : List Nat := [x / 16777216 % 256, x / 65536 % 256, x / 256 % 256, x % 256]
theorem be_is (x : Nat) (hx : x < 4294967296) : Sha.be x = beOf x := by
  unfold Sha.be beOf
  rw [Nat.shiftRight_eq_div_pow, Nat.shiftRight_eq_div_pow, Nat.shiftRight_eq_div_pow]
  congr 1
  omega
theorem sum_l1 (h : List Nat) (hh : h.length = 8) (k : Nat) : ∀ (d i : Nat), i + d = 8 →
    aircheckref02_Sum.l1 (k + d + 1) (I h) (I ((h.take i).flatMap beOf)) (i : Int) = some (str (h.flatMap beOf)) := by
  intro d
  induction d with
  | zero =>
    intro i hi
    rw [aircheckref02_Sum.l1, if_neg (by omega), List.take_of_length_le (by omega)]
    congr 1
    unfold strOfNums str
    simp
  | succ d ih =>
    intro i hi
    have hb : ∀ l : List Nat, (l.flatMap beOf).length = 4 * l.length := by
      intro l
      induction l with
      | nil => rfl
      | cons a l ih => rw [List.flatMap_cons, List.length_append, ih]; simp [beOf]; omega
    rw [show k + (d + 1) + 1 = (k + d + 1) + 1 by omega, aircheckref02_Sum.l1, if_pos (by omega), if_pos (by omega), I_len, hh, if_pos (by omega), Option.bind_some, if_pos (by rw [I_len, hb, List.length_take]; simp; omega), rd_I h i (by omega), w64 (by omega) (by omega), show (i : Int) + 1 = ((i + 1 : Nat) : Int) by omega]
    have he : I ((h.take i).flatMap beOf) ++ [((h.getD i 0 : Nat) : Int) / 16777216 % 256, ((h.getD i 0 : Nat) : Int) / 65536 % 256, ((h.getD i 0 : Nat) : Int) / 256 % 256, ((h.getD i 0 : Nat) : Int) % 256] = I ((h.take (i + 1)).flatMap beOf) := by
      rw [take_snoc' (by omega), List.flatMap_append]
      simp [beOf]
    rw [he]
    exact ih (i + 1) (by omega)
theorem refsum_is (s : ByteArray) (hs : s.size ≤ 100000) (k : Nat) (hk : 2 * s.size + 400 ≤ k) : aircheckref02_Sum.f k s = some (Ext.hash s) := by
  have hz : zeros s.size < 64 := by unfold zeros; omega
  obtain ⟨p, hp⟩ : ∃ p, p = nat s ++ Sha.pad s.size := ⟨_, rfl⟩
  have hlen : p.length = s.size + (1 + (zeros s.size + 8)) := by
    rw [hp, pad_is, List.length_append, nat_length, List.length_cons, List.length_append, List.length_replicate]
    simp [tail8]; omega
  have hdiv : ∃ n, p.length = 64 * n := ⟨p.length / 64, by rw [hlen]; unfold zeros; omega⟩
  obtain ⟨n, hn⟩ := hdiv
  have hlt : ∀ x ∈ p, x < 256 := by
    intro x hx
    rw [hp] at hx
    rcases List.mem_append.1 hx with hx | hx
    · exact nat_lt s x hx
    · exact pad_lt _ x hx
  have hnle : n ≤ s.size + 2 := by omega
  obtain ⟨q, rfl⟩ : ∃ q, k = (q + 140) + n + 1 := ⟨k - (140 + n + 1), by omega⟩
  unfold aircheckref02_Sum.f
  rw [extended_is s (by omega) _ (by omega), Option.bind_some, ← hp]
  have h0 := sum_l0 p n hn (by omega) hlt (q + 140) (by omega) n 0 Sha.init init_bd (by omega)
  have h1 := sum_l1 (lst (Sha.blocks n Sha.init (p.drop (64 * 0)))) rfl (q + 131) 8 0 rfl
  refine h0.trans (h1.trans ?_)
  unfold Ext.hash Sha.sha
  dsimp only
  rw [nat_length, ← hp, hn, Nat.mul_div_cancel_left _ (by omega : 0 < 64)]
  rw [Nat.mul_zero, List.drop_zero]
  obtain ⟨b1, b2, b3, b4, b5, b6, b7, b8⟩ := blocks_bd n p
  congr 2
  unfold Sha.out lst
  rw [be_is _ b1, be_is _ b2, be_is _ b3, be_is _ b4, be_is _ b5, be_is _ b6, be_is _ b7, be_is _ b8]
  simp
end Go.Proofs.YtlmlimihgohchaaDoor.RefSpec
end
section
-- Written by a program of this session out of the translation's print; not trusted: checked by the kernel.
namespace Go.Proofs.YtlmlimihgohchaaDoor.PD
open Go.Proofs.YtlmlimihgohchaaDoor.Ext
attribute [local go_sem] u32_signed u32_max
open Go.RowKit Go.Proofs.YtlmlimihgohchaaDoorW.PrintWords Go.Proofs.YtlmlimihgohchaaDoorW.PrintLast Go.Proofs.YtlmlimihgohchaaDoorW.PrintMore
attribute [local go_sem] max2_int min2_int max_two min_two max_three min_three max_four min_four   -- for this text's walks alone
set_option linter.unusedVariables false
set_option linter.unusedSimpArgs false
/-! ### aircheckref02_Node: function 35 -/
def aircheckref02_Node.f (k : Nat) (a0 : ByteArray) (a1 : ByteArray) : Option (ByteArray) := if 1 + a0.size ≤ 9223372036854775807 then (if ((⟨#[1]⟩ : ByteArray) ++ a0).size + a1.size ≤ 9223372036854775807 then ((aircheckref02_Sum.f k (((⟨#[1]⟩ : ByteArray) ++ a0) ++ a1)).bind fun t430 => (some t430)) else (none)) else (none)
set_option maxHeartbeats 8000000 in
set_option maxRecDepth 100000 in
theorem aircheckref02_Node.calls (k : Nat) (a0 : ByteArray) (a1 : ByteArray) (r : ByteArray) (w : World) (h : aircheckref02_Node.f k a0 a1 = some r) :
  Calls Tryd.prog 35 #[.string a0, .string a1] w fun e w' => e = .returned (.string r) ∧ Below w.heap.size w w' := by
 have HB := Aside0.mk (Below.refl w.heap.size w)
 have H : (if 1 + a0.size ≤ 9223372036854775807 then (if ((⟨#[1]⟩ : ByteArray) ++ a0).size + a1.size ≤ 9223372036854775807 then ((aircheckref02_Sum.f k (((⟨#[1]⟩ : ByteArray) ++ a0) ++ a1)).bind fun t430 => (some t430)) else (none)) else (none)) = some r := h
 clear h
 by_cases c3 : 1 + a0.size ≤ 9223372036854775807
 ·rw [if_pos c3] at H
  have c3b0 := eq_true c3
  have c3b1 : decide (1 + a0.size ≤ 9223372036854775807) = true := decide_eq_true c3
  try have c3b2 : (9223372036854775807 < 1 + a0.size) = False := eq_false (Nat.not_lt.2 c3)
  obtain ⟨js4, hjs4⟩ : ∃ s_ : ByteArray, ((⟨#[1]⟩ : ByteArray) ++ a0) = s_ := ⟨_, rfl⟩
  replace H : (if js4.size + a1.size ≤ 9223372036854775807 then ((aircheckref02_Sum.f k (js4 ++ a1)).bind fun t430 => (some t430)) else (none)) = some r := by first | (rw [hjs4] at H; exact H) | (simp only [hjs4] at H ⊢; exact H) | exact H
  by_cases c5 : js4.size + a1.size ≤ 9223372036854775807
  ·rw [if_pos c5] at H
   have c5b0 := eq_true c5
   have c5b1 : decide (js4.size + a1.size ≤ 9223372036854775807) = true := decide_eq_true c5
   try have c5b2 : (9223372036854775807 < js4.size + a1.size) = False := eq_false (Nat.not_lt.2 c5)
   obtain ⟨js6, hjs6⟩ : ∃ s_ : ByteArray, (js4 ++ a1) = s_ := ⟨_, rfl⟩
   replace H : ((aircheckref02_Sum.f k js6).bind fun t430 => (some t430)) = some r := by first | (rw [hjs6] at H; exact H) | (simp only [hjs6] at H ⊢; exact H) | exact H
   replace H := Option.bind_eq_some_iff.mp H
   obtain ⟨t430, A70, H⟩ := H
   replace H : (some t430) = some r := H
   have A7 := Aside0.mk A70
   clear A70
   obtain rfl := Option.some.inj H
   go_enter Tryd.func35, Tryd.ntmps35
   go_wp2_with (first | ((with_reducible refine gate_callee (f := 33) rfl ?_); refine goesL_ (some 9) rfl rfl Tryd.func33 (by kernel_rfl) rfl #[.string js6] rfl (by (try simp only [List.map_toArray, List.map_cons, List.map_nil]); first | done | rfl | (simp only [List.length_drop, List.length_take]; rfl)) ?_; (with_reducible refine (aircheckref02_Sum.calls k js6 t430 _ A7.out).mono ?_); rintro e w8 ⟨rfl, hb⟩; refine ⟨_, rfl, ?_⟩; have n0_ := Aside0.mk (below_step (by repeat (first | (with_reducible first | exact HB.out | apply below_alloc | apply pw_below_drewN | apply below_drew1) | exact HB.out)) hb); clear HB; have HB := n0_; clear n0_; (try clear hb); (try clear hb2); (try clear hk); (try clear hi)))
   go_ret
   exact ⟨by first | rfl | (simp [errW_none, errW_some] <;> rfl) | (simp only [← hjs4, ← hjs6]; first | rfl | (simp [errW_none, errW_some] <;> rfl)) | (simp [*, errW_none, errW_some] <;> rfl), by repeat (first | (with_reducible first | exact HB.out | apply below_alloc | apply pw_below_drewN | apply below_drew1) | exact HB.out)⟩
  ·rw [if_neg c5] at H
   exact absurd H (by simp)
 ·rw [if_neg c3] at H
  exact absurd H (by simp)
end Go.Proofs.YtlmlimihgohchaaDoor.PD
end
section
-- Written by a program of this session out of the translation's print; not trusted: checked by the kernel.
namespace Go.Proofs.YtlmlimihgohchaaDoor.PD
open Go.Proofs.YtlmlimihgohchaaDoor.Ext
attribute [local go_sem] u32_signed u32_max
open Go.RowKit Go.Proofs.YtlmlimihgohchaaDoorW.PrintWords Go.Proofs.YtlmlimihgohchaaDoorW.PrintLast Go.Proofs.YtlmlimihgohchaaDoorW.PrintMore
attribute [local go_sem] max2_int min2_int max_two min_two max_three min_three max_four min_four   -- for this text's walks alone
set_option linter.unusedVariables false
set_option linter.unusedSimpArgs false
/-! ### aircheckref02_Leaf: function 34 -/
def aircheckref02_Leaf.f (k : Nat) (a0 : ByteArray) : Option (ByteArray) := if 1 + a0.size ≤ 9223372036854775807 then ((aircheckref02_Sum.f k ((⟨#[0]⟩ : ByteArray) ++ a0)).bind fun t429 => (some t429)) else (none)
set_option maxHeartbeats 8000000 in
set_option maxRecDepth 100000 in
theorem aircheckref02_Leaf.calls (k : Nat) (a0 : ByteArray) (r : ByteArray) (w : World) (h : aircheckref02_Leaf.f k a0 = some r) :
  Calls Tryd.prog 34 #[.string a0] w fun e w' => e = .returned (.string r) ∧ Below w.heap.size w w' := by
 have HB := Aside0.mk (Below.refl w.heap.size w)
 have H : (if 1 + a0.size ≤ 9223372036854775807 then ((aircheckref02_Sum.f k ((⟨#[0]⟩ : ByteArray) ++ a0)).bind fun t429 => (some t429)) else (none)) = some r := h
 clear h
 by_cases c2 : 1 + a0.size ≤ 9223372036854775807
 ·rw [if_pos c2] at H
  have c2b0 := eq_true c2
  have c2b1 : decide (1 + a0.size ≤ 9223372036854775807) = true := decide_eq_true c2
  try have c2b2 : (9223372036854775807 < 1 + a0.size) = False := eq_false (Nat.not_lt.2 c2)
  obtain ⟨js3, hjs3⟩ : ∃ s_ : ByteArray, ((⟨#[0]⟩ : ByteArray) ++ a0) = s_ := ⟨_, rfl⟩
  replace H : ((aircheckref02_Sum.f k js3).bind fun t429 => (some t429)) = some r := by first | (rw [hjs3] at H; exact H) | (simp only [hjs3] at H ⊢; exact H) | exact H
  replace H := Option.bind_eq_some_iff.mp H
  obtain ⟨t429, A40, H⟩ := H
  replace H : (some t429) = some r := H
  have A4 := Aside0.mk A40
  clear A40
  obtain rfl := Option.some.inj H
  go_enter Tryd.func34, Tryd.ntmps34
  go_wp2_with (first | ((with_reducible refine gate_callee (f := 33) rfl ?_); refine goesL_ (some 5) rfl rfl Tryd.func33 (by kernel_rfl) rfl #[.string js3] rfl (by (try simp only [List.map_toArray, List.map_cons, List.map_nil]); first | done | rfl | (simp only [List.length_drop, List.length_take]; rfl)) ?_; (with_reducible refine (aircheckref02_Sum.calls k js3 t429 _ A4.out).mono ?_); rintro e w5 ⟨rfl, hb⟩; refine ⟨_, rfl, ?_⟩; have n0_ := Aside0.mk (below_step (by repeat (first | (with_reducible first | exact HB.out | apply below_alloc | apply pw_below_drewN | apply below_drew1) | exact HB.out)) hb); clear HB; have HB := n0_; clear n0_; (try clear hb); (try clear hb2); (try clear hk); (try clear hi)))
  go_ret
  exact ⟨by first | rfl | (simp [errW_none, errW_some] <;> rfl) | (simp only [← hjs3]; first | rfl | (simp [errW_none, errW_some] <;> rfl)) | (simp [*, errW_none, errW_some] <;> rfl), by repeat (first | (with_reducible first | exact HB.out | apply below_alloc | apply pw_below_drewN | apply below_drew1) | exact HB.out)⟩
 ·rw [if_neg c2] at H
  exact absurd H (by simp)
end Go.Proofs.YtlmlimihgohchaaDoor.PD
end
section
-- Written by a program of this session out of the translation's print; not trusted: checked by the kernel.
namespace Go.Proofs.YtlmlimihgohchaaDoor.PD
open Go.Proofs.YtlmlimihgohchaaDoor.Ext
attribute [local go_sem] u32_signed u32_max
open Go.RowKit Go.Proofs.YtlmlimihgohchaaDoorW.PrintWords Go.Proofs.YtlmlimihgohchaaDoorW.PrintLast Go.Proofs.YtlmlimihgohchaaDoorW.PrintMore
attribute [local go_sem] max2_int min2_int max_two min_two max_three min_three max_four min_four   -- for this text's walks alone
set_option linter.unusedVariables false
set_option linter.unusedSimpArgs false
/-! ### aircheckref02_Left: function 42 -/
def aircheckref02_Left.l0 : Nat → Int → Int → Option (Int)
 | 0, _, _ => none
 | k + 1, x0, x3 => if x3 < (wrap64 (x0 - x3)) then (aircheckref02_Left.l0 k x0 (wrap64 (2 * x3))) else (some x3)
def aircheckref02_Left.f (k : Nat) (a0 : Int) : Option (Int) := aircheckref02_Left.l0 k a0 1
set_option maxHeartbeats 8000000 in
set_option maxRecDepth 100000 in
theorem aircheckref02_Left.calls (k : Nat) (a0 : Int) (r : Int) (w : World) (h : aircheckref02_Left.f k a0 = some r) :
  Calls Tryd.prog 42 #[.int .i64 a0] w fun e w' => e = .returned (.int .i64 r) ∧ Drawn0 w w' := by
 have H : (aircheckref02_Left.l0 k a0 1) = some r := h
 clear h
 have H' := Aside0.mk H
 clear H
 go_enter Tryd.func42, Tryd.ntmps42
 go_wp2
 go_loopg [3] k (fun kq v3 w' => ∃ (x3_1 : Int), v3 = .int .i64 x3_1 ∧ Aside0 (aircheckref02_Left.l0 kq a0 x3_1 = some r) ∧ Aside0 (kq ≤ k) ∧ Drawn0 w w')
 case atStart => exact ⟨(1), (by first | rfl | (simp; done) | (simp [*]; done)), H', ⟨Nat.le_refl _⟩, by repeat (first | exact Drawn0.refl _ | apply Drawn0.step)⟩
 case round =>
  clear H'
  obtain ⟨x3_1, rfl, HA, HK1, ⟨m1, rfl⟩⟩ := hrel
  cases gk with
  | zero => exact absurd HA.out (by simp [aircheckref02_Left.l0])
  | succ k1 =>
   have H := HA.out
   clear HA
   simp only [aircheckref02_Left.l0] at H
   by_cases c2 : x3_1 < (wrap64 (a0 - x3_1))
   ·rw [if_pos c2] at H
    have c2b0 : decide (x3_1 < (wrap64 (a0 - x3_1))) = true := decide_eq_true c2
    clear c2
    have H' := Aside0.mk H
    clear H
    go_wp2
    go_roundg k1
    case measure => have := HK1.out; omega
    case rel => exact ⟨(wrap64 (2 * x3_1)), (by first | rfl | (simp; done) | (simp [*]; done)), H', ⟨by have := HK1.out; omega⟩, by repeat (first | exact Drawn0.refl _ | apply Drawn0.step)⟩
   ·rw [if_neg c2] at H
    have c2b0 : decide (x3_1 < (wrap64 (a0 - x3_1))) = false := decide_eq_false c2
    clear c2
    obtain rfl := Option.some.inj H
    go_wp2
    go_ret
    exact ⟨by first | rfl | (simp; done) | (simp [*]; done), by repeat (first | exact Drawn0.refl _ | apply Drawn0.step)⟩
end Go.Proofs.YtlmlimihgohchaaDoor.PD
end
section
-- Written by a program of this session out of the translation's print; not trusted: checked by the kernel.
namespace Go.Proofs.YtlmlimihgohchaaDoor.PD
open Go.Proofs.YtlmlimihgohchaaDoor.Ext
attribute [local go_sem] u32_signed u32_max
open Go.RowKit Go.Proofs.YtlmlimihgohchaaDoorW.PrintWords Go.Proofs.YtlmlimihgohchaaDoorW.PrintLast Go.Proofs.YtlmlimihgohchaaDoorW.PrintMore
attribute [local go_sem] max2_int min2_int max_two min_two max_three min_three max_four min_four   -- for this text's walks alone
set_option linter.unusedVariables false
set_option linter.unusedSimpArgs false
/-! ### aircheckref02_Root: function 20 -/
def aircheckref02_Root.f : Nat → List ByteArray → Option (ByteArray)
 | 0, _ => none
 | k + 1, l0 => if (l0.length : Int) = 0 then ((aircheckref02_Sum.f k (⟨#[]⟩ : ByteArray)).bind fun t431 => (some t431)) else (if (l0.length : Int) = 1 then (if 0 < (l0.length : Int) then ((aircheckref02_Leaf.f k (rdOf ByteArray.empty l0 0)).bind fun t433 => (some t433)) else (none)) else ((aircheckref02_Left.f k (l0.length : Int)).bind fun t434 => (if 0 ≤ t434 then (if t434 ≤ (l0.length : Int) then ((aircheckref02_Root.f k (l0.take (t434 : Int).toNat)).bind fun t436 => ((aircheckref02_Root.f k (l0.drop (t434 : Int).toNat)).bind fun t438 => ((aircheckref02_Node.f k t436 t438).bind fun t439 => (some t439)))) else (none)) else (none))))
def aircheckref02_Root.T6 : Bool × List (List Nat × List Nat) := (true, [([], []), ([], []), ([0, 1], [0, 1]), ([2], [2]), ([], []), ([], []), ([4, 5], [4, 5]), ([6, 3], [6]), ([3, 7, 7], [3, 7]), ([8, 8, 0, 1, 2, 3, 4, 5, 6, 7, 8], [8])])
def aircheckref02_Root.B6 : List Nat := [0, 0, 3, 7, 0, 0, 48, 127, 255, 511]
theorem aircheckref02_Root.tab6 : rtab .any (opsOf Tryd.f20 6) = aircheckref02_Root.T6 := by kernel_rfl
theorem aircheckref02_Root.bits6 : waitsOk aircheckref02_Root.T6.2 aircheckref02_Root.B6 = true := by kernel_rfl
set_option maxHeartbeats 8000000 in
set_option maxRecDepth 100000 in
theorem aircheckref02_Root.calls (k : Nat) : ∀ (A0 : Option Addr) (c0 : Nat) (l0 : List ByteArray) (r : ByteArray) (w : World) (hr0 : Kd.C Kd.string w A0 l0.length l0) (hc0 : l0.length ≤ c0) (h : aircheckref02_Root.f k l0 = some r),
  Calls Tryd.prog 20 #[.slice A0 l0.length c0] w fun e w' => e = .returned (.string r) ∧ Below w.heap.size w w' := by
 induction k using Nat.strongRecOn with
 | _ k ih =>
 intro A0 c0 l0 r w hr0 hc0 h
 cases k with
 | zero => exact absurd h (by simp [aircheckref02_Root.f])
 | succ k =>
 simp only [aircheckref02_Root.f] at h
 have HR0 := Aside0.mk hr0
 have HC0 := Aside0.mk hc0
 clear hr0 hc0
 have HB := Aside0.mk (Below.refl w.heap.size w)
 have H : (if (l0.length : Int) = 0 then ((aircheckref02_Sum.f k (⟨#[]⟩ : ByteArray)).bind fun t431 => (some t431)) else (if (l0.length : Int) = 1 then (if 0 < (l0.length : Int) then ((aircheckref02_Leaf.f k (rdOf ByteArray.empty l0 0)).bind fun t433 => (some t433)) else (none)) else ((aircheckref02_Left.f k (l0.length : Int)).bind fun t434 => (if 0 ≤ t434 then (if t434 ≤ (l0.length : Int) then ((aircheckref02_Root.f k (l0.take (t434 : Int).toNat)).bind fun t436 => ((aircheckref02_Root.f k (l0.drop (t434 : Int).toNat)).bind fun t438 => ((aircheckref02_Node.f k t436 t438).bind fun t439 => (some t439)))) else (none)) else (none))))) = some r := h
 clear h
 by_cases c2 : (l0.length : Int) = 0
 ·rw [if_pos c2] at H
  have c2b0 : ((l0.length : Int) == 0) = true := beq_iff_eq.mpr c2
  have c2b1 : ((l0.length : Int) != 0) = false := bne_eq_false_iff_eq.mpr c2
  clear c2
  replace H := Option.bind_eq_some_iff.mp H
  obtain ⟨t431, A30, H⟩ := H
  replace H : (some t431) = some r := H
  have A3 := Aside0.mk A30
  clear A30
  obtain rfl := Option.some.inj H
  go_enter Tryd.func20, Tryd.ntmps20
  go_wp2_with (first | ((with_reducible refine gate_callee (f := 33) rfl ?_); refine goesL_ (some 7) rfl rfl Tryd.func33 (by kernel_rfl) rfl #[.string (⟨#[]⟩ : ByteArray)] rfl (by (try simp only [List.map_toArray, List.map_cons, List.map_nil]); first | done | rfl | (simp only [List.length_drop, List.length_take]; rfl)) ?_; (with_reducible refine (aircheckref02_Sum.calls k (⟨#[]⟩ : ByteArray) t431 _ A3.out).mono ?_); rintro e w4 ⟨rfl, hb⟩; refine ⟨_, rfl, ?_⟩; have n0_ := Aside0.mk (below_step (by repeat (first | (with_reducible first | exact HB.out | apply below_alloc | apply pw_below_drewN | apply below_drew1) | exact HB.out)) hb); clear HB; have HB := n0_; clear n0_; (try clear hb); (try clear hb2); (try clear hk); (try clear hi)))
  go_ret
  exact ⟨by first | rfl | (simp [errW_none, errW_some] <;> rfl) | (simp [*, errW_none, errW_some] <;> rfl), by repeat (first | (with_reducible first | exact HB.out | apply below_alloc | apply pw_below_drewN | apply below_drew1) | exact HB.out)⟩
 ·rw [if_neg c2] at H
  have c2b0 : ((l0.length : Int) == 0) = false := beq_eq_false_iff_ne.mpr c2
  have c2b1 : ((l0.length : Int) != 0) = true := bne_iff_ne.mpr c2
  have c2b2 : ¬ (l0 = []) := fun h_ => c2 (by rw [h_]; rfl)
  by_cases c5 : (l0.length : Int) = 1
  ·rw [if_pos c5] at H
   have c5b0 : ((l0.length : Int) == 1) = true := beq_iff_eq.mpr c5
   have c5b1 : ((l0.length : Int) != 1) = false := bne_eq_false_iff_eq.mpr c5
   clear c5
   by_cases c6 : 0 < (l0.length : Int)
   ·rw [if_pos c6] at H
    have c6b0 : decide (0 < (l0.length : Int)) = true := decide_eq_true c6
    have c6b1 : decide (0 < l0.length) = true := decide_eq_true (by omega)
    clear c6
    replace H := Option.bind_eq_some_iff.mp H
    obtain ⟨t433, A70, H⟩ := H
    replace H : (some t433) = some r := H
    have A7 := Aside0.mk A70
    clear A70
    obtain rfl := Option.some.inj H
    have p432 : 0 ≤ (0 : Int) := (by omega)
    have q432 : 0 < (l0.length : Int) := of_decide_eq_true (by first | (with_reducible assumption) | assumption)
    obtain ⟨ad432, e432, hx432_0⟩ := Kd.at_string HR0.out 0 p432 q432
    cases e432
    have qi432 : (0 < l0.length) = True := eq_true (by omega)
    (try rw [show ((0 : Int)).toNat = 0 from rfl] at hx432_0)
    (try rw [Addr.add_zero'] at hx432_0)
    replace p432 := eq_true p432
    replace q432 := eq_true q432
    go_enter Tryd.func20, Tryd.ntmps20
    go_wp2_with (first | ((with_reducible refine gate_callee (f := 34) rfl ?_); refine goesL_ (some 14) rfl rfl Tryd.func34 (by kernel_rfl) rfl #[.string (rdOf ByteArray.empty l0 0)] rfl (by (try simp only [List.map_toArray, List.map_cons, List.map_nil]); first | done | rfl | (simp only [List.length_drop, List.length_take]; rfl)) ?_; (with_reducible refine (aircheckref02_Leaf.calls k (rdOf ByteArray.empty l0 0) t433 _ A7.out).mono ?_); rintro e w8 ⟨rfl, hb⟩; refine ⟨_, rfl, ?_⟩; have n0_ := Aside0.mk (below_step (by repeat (first | (with_reducible first | exact HB.out | apply below_alloc | apply pw_below_drewN | apply below_drew1) | exact HB.out)) hb); clear HB; have HB := n0_; clear n0_; (try clear hb); (try clear hb2); (try clear hk); (try clear hi)))
    go_ret
    exact ⟨by first | rfl | (simp [errW_none, errW_some] <;> rfl) | (simp [*, errW_none, errW_some] <;> rfl), by repeat (first | (with_reducible first | exact HB.out | apply below_alloc | apply pw_below_drewN | apply below_drew1) | exact HB.out)⟩
   ·rw [if_neg c6] at H
    exact absurd H (by simp)
  ·rw [if_neg c5] at H
   have c5b0 : ((l0.length : Int) == 1) = false := beq_eq_false_iff_ne.mpr c5
   have c5b1 : ((l0.length : Int) != 1) = true := bne_iff_ne.mpr c5
   replace H := Option.bind_eq_some_iff.mp H
   obtain ⟨t434, A90, H⟩ := H
   replace H : (if 0 ≤ t434 then (if t434 ≤ (l0.length : Int) then ((aircheckref02_Root.f k (l0.take (t434 : Int).toNat)).bind fun t436 => ((aircheckref02_Root.f k (l0.drop (t434 : Int).toNat)).bind fun t438 => ((aircheckref02_Node.f k t436 t438).bind fun t439 => (some t439)))) else (none)) else (none)) = some r := H
   have A9 := Aside0.mk A90
   clear A90
   by_cases c10 : 0 ≤ t434
   ·rw [if_pos c10] at H
    have c10b0 := eq_true c10
    have c10b1 : decide (0 ≤ t434) = true := decide_eq_true c10
    clear c10
    by_cases c11 : t434 ≤ (l0.length : Int)
    ·rw [if_pos c11] at H
     have c11b0 := eq_true c11
     have c11b1 : decide (t434 ≤ (l0.length : Int)) = true := decide_eq_true c11
     clear c11
     replace H := Option.bind_eq_some_iff.mp H
     obtain ⟨t436, A120, H⟩ := H
     replace H : ((aircheckref02_Root.f k (l0.drop (t434 : Int).toNat)).bind fun t438 => ((aircheckref02_Node.f k t436 t438).bind fun t439 => (some t439))) = some r := H
     have A12 := Aside0.mk A120
     clear A120
     have c13b0 := eq_true (of_decide_eq_true (by first | (with_reducible assumption) | assumption) : 0 ≤ t434)
     have c14b0 := eq_true (of_decide_eq_true (by first | (with_reducible assumption) | assumption) : t434 ≤ (l0.length : Int))
     replace H := Option.bind_eq_some_iff.mp H
     obtain ⟨t438, A150, H⟩ := H
     replace H : ((aircheckref02_Node.f k t436 t438).bind fun t439 => (some t439)) = some r := H
     have A15 := Aside0.mk A150
     clear A150
     replace H := Option.bind_eq_some_iff.mp H
     obtain ⟨t439, A160, H⟩ := H
     replace H : (some t439) = some r := H
     have A16 := Aside0.mk A160
     clear A160
     obtain rfl := Option.some.inj H
     go_enter Tryd.func20, Tryd.ntmps20
     try go_wp2_with (first | ((with_reducible refine gate_callee (f := 42) rfl ?_); refine goesL_ (some 17) rfl rfl Tryd.func42 (by kernel_rfl) rfl #[.int .i64 (l0.length : Int)] rfl (by (try simp only [List.map_toArray, List.map_cons, List.map_nil]); first | done | rfl | (simp only [List.length_drop, List.length_take]; rfl)) ?_; (with_reducible refine (aircheckref02_Left.calls k (l0.length : Int) t434 _ A9.out).mono ?_); rintro e w' ⟨rfl, ⟨nd, rfl⟩⟩; refine ⟨_, rfl, ?_⟩))
     generalize hq_ : World.drewN w _ = wq
     have n0_ : Aside0 (Below w.heap.size w wq) := ⟨by rw [← hq_]; exact (by repeat (first | (with_reducible first | exact HB.out | apply below_alloc | apply pw_below_drewN | apply below_drew1) | exact HB.out))⟩
     clear HB hq_
     have HB := n0_
     clear n0_
     have n0_ := Aside0.mk (below_drew1 HB.out)
     clear HB
     have HB := n0_
     clear n0_
     obtain ⟨i018, hi018, _, hsz18, _⟩ := info_parts info9
     obtain ⟨hcut18, hA18, hC18⟩ := print_take_of (P := Tryd.prog) Value.string (⟨#[]⟩ : ByteArray) 22 9 .i64 Tryd.underlying22 hi018 hsz18 A0 c0 l0 t434 (of_decide_eq_true (by first | (with_reducible assumption) | assumption)) (of_decide_eq_true (by first | (with_reducible assumption) | assumption)) HC0.out
     have HR435 := Aside0.mk (Kd.C_of_reads (h1 := fun _ => rfl) (hA18 _ (Kd.reads_of_C HR0.out)))
     have HC435 := Aside0.mk hC18
     clear hA18 hC18 hi018 hsz18
     obtain ⟨i019, hi019, _, hsz19, _⟩ := info_parts info9
     obtain ⟨A19, hcut19, hA19, hC19⟩ := print_drop_of (P := Tryd.prog) Value.string (⟨#[]⟩ : ByteArray) 22 9 .i64 Tryd.underlying22 hi019 hsz19 A0 c0 l0 t434 (of_decide_eq_true (by first | (with_reducible assumption) | assumption)) (of_decide_eq_true (by first | (with_reducible assumption) | assumption)) HC0.out
     have HR437 := Aside0.mk (Kd.C_of_reads (h1 := fun _ => rfl) (hA19 _ (Kd.reads_of_C HR0.out)))
     have HC437 := Aside0.mk hC19
     clear hA19 hC19 hi019 hsz19
     refine start_ (n := 10) (S := fun w' => True) (ds := []) #[false, false, false, false, false, false, false, false, false, false] (by kernel_rfl) rfl rfl trivial (fun hHeld => ?_); refine with_tabW aircheckref02_Root.tab6 aircheckref02_Root.bits6 (fun HT_ HW_ => ?_)
     generalize wq.drew = w17 at HB HR435 HR437 hHeld ⊢
     refine pure_ (i := 0) (N := some 18) (v := ?_) (a' := ?_) #[true, false, false, false, false, false, false, false, false, false] rfl rfl (any_of HT_.out (by kernel_rfl)) (fun _ _ _ h => h) (Or.inl ⟨by rfl, ?_⟩) ?_ ?_
     rotate_left
     ·intro w'
      go_simp
      with_reducible rfl
     rotate_left
     ·simp only [Act.put, List.setIfInBounds_toArray, List.set_cons_zero, List.set_cons_succ, i64_w, i32_w]
      rfl
     refine pure_ (i := 1) (N := some 19) (v := ?_) (a' := ?_) #[true, true, false, false, false, false, false, false, false, false] rfl rfl (any_of HT_.out (by kernel_rfl)) (fun _ _ _ h => h) (Or.inl ⟨by rfl, ?_⟩) ?_ ?_
     rotate_left
     ·intro w'
      go_simp
      with_reducible rfl
     rotate_left
     ·simp only [Act.put, List.setIfInBounds_toArray, List.set_cons_zero, List.set_cons_succ, i64_w, i32_w]
      rfl
     refine pure_ (i := 2) (N := some 20) (v := ?_) (a' := ?_) #[true, true, true, false, false, false, false, false, false, false] rfl rfl (any_of HT_.out (by kernel_rfl)) (fun _ _ _ h => h) (Or.inl ⟨by rfl, ?_⟩) ?_ ?_
     rotate_left
     ·intro w'
      go_simp
      with_reducible rfl
     rotate_left
     ·simp only [Act.put, List.setIfInBounds_toArray, List.set_cons_zero, List.set_cons_succ, i64_w, i32_w]
      rfl
     refine pure_ (i := 4) (N := some 22) (v := ?_) (a' := ?_) #[true, true, true, false, true, false, false, false, false, false] rfl rfl (any_of HT_.out (by kernel_rfl)) (fun _ _ _ h => h) (Or.inl ⟨by rfl, ?_⟩) ?_ ?_
     rotate_left
     ·intro w'
      go_simp
      with_reducible rfl
     rotate_left
     ·simp only [Act.put, List.setIfInBounds_toArray, List.set_cons_zero, List.set_cons_succ, i64_w, i32_w]
      rfl
     refine pure_ (i := 5) (N := some 23) (v := ?_) (a' := ?_) #[true, true, true, false, true, true, false, false, false, false] rfl rfl (any_of HT_.out (by kernel_rfl)) (fun _ _ _ h => h) (Or.inl ⟨by rfl, ?_⟩) ?_ ?_
     rotate_left
     ·intro w'
      go_simp
      with_reducible rfl
     rotate_left
     ·simp only [Act.put, List.setIfInBounds_toArray, List.set_cons_zero, List.set_cons_succ, i64_w, i32_w]
      rfl
     refine pure_ (i := 6) (N := some 24) (v := ?_) (a' := ?_) #[true, true, true, false, true, true, true, false, false, false] rfl rfl (any_of HT_.out (by kernel_rfl)) (fun _ _ _ h => h) (Or.inl ⟨by rfl, ?_⟩) ?_ ?_
     rotate_left
     ·intro w'
      go_simp
      with_reducible rfl
     rotate_left
     ·simp only [Act.put, List.setIfInBounds_toArray, List.set_cons_zero, List.set_cons_succ, i64_w, i32_w]
      rfl
     refine one_ (i := 3) (N := some 21) #[true, true, true, true, true, true, true, false, false, false] rfl rfl (one_of HT_.out (by kernel_rfl)) (by decide) (fun K hK => ?_)
     refine goes_ Tryd.func20 (by kernel_rfl) rfl #[.slice A0 (l0.take (t434 : Int).toNat).length c0] (by rfl) rfl rfl (by (try simp only [List.map_toArray, List.map_cons, List.map_nil]); first | done | (rw [show (l0.take (t434 : Int).toNat).length = t434.toNat from (by rw [List.length_take]; have h_ : (t434 : Int) ≤ (l0.length : Int) := of_decide_eq_true (by first | (with_reducible assumption) | assumption); omega)] <;> rfl) | rfl | (simp only [List.length_drop, List.length_take]; rfl)) ?_
     with_reducible refine (ih k (by omega) _ _ (l0.take (t434 : Int).toNat) t436 _ ?side1 ?side2 A12.out).mono ?_
     (case side1 => repeat (first | exact (Kd.C_below HR435.out HB.out) | (with_reducible refine Kd.C_alloc ?_ _) | (with_reducible refine Kd.C_drewN ?_ _) | (with_reducible refine Kd.C_drew ?_)))
     (case side2 => exact HC435.out)
     rintro e w20 ⟨rfl, hb⟩
     refine ⟨_, rfl, ?_⟩
     have n0_ := Aside0.mk (below_step (by repeat (first | (with_reducible first | exact HB.out | apply below_alloc | apply pw_below_drewN | apply below_drew1) | exact HB.out)) hb)
     clear HB
     have HB := n0_
     clear n0_
     (try clear hb)
     (try clear hb2)
     (try clear hk)
     (try clear hi)
     refine hK.out _ _ trivial (fun hHeld => ?_)
     clear hK K
     refine norm_ (a' := ?_) ?_ ?_
     rotate_left
     ·show Act.put _ (some 21) _ = _
      simp only [Act.put, List.setIfInBounds_toArray, List.set_cons_zero, List.set_cons_succ, i64_w, i32_w]
      rfl
     refine one_ (i := 7) (N := some 25) #[true, true, true, true, true, true, true, true, false, false] rfl rfl (one_of HT_.out (by kernel_rfl)) (by decide) (fun K hK => ?_)
     refine goes_ Tryd.func20 (by kernel_rfl) rfl #[.slice A19 (l0.drop (t434 : Int).toNat).length (c0 - t434.toNat)] (by rfl) rfl rfl (by (try simp only [List.map_toArray, List.map_cons, List.map_nil]); first | done | (rw [show (l0.drop (t434 : Int).toNat).length = (l0.length - t434.toNat) from List.length_drop] <;> rfl) | rfl | (simp only [List.length_drop, List.length_take]; rfl)) ?_
     with_reducible refine (ih k (by omega) _ _ (l0.drop (t434 : Int).toNat) t438 _ ?side1 ?side2 A15.out).mono ?_
     (case side1 => repeat (first | exact (Kd.C_below HR437.out HB.out) | (with_reducible refine Kd.C_alloc ?_ _) | (with_reducible refine Kd.C_drewN ?_ _) | (with_reducible refine Kd.C_drew ?_)))
     (case side2 => exact HC437.out)
     rintro e w21 ⟨rfl, hb⟩
     refine ⟨_, rfl, ?_⟩
     have n0_ := Aside0.mk (below_step (by repeat (first | (with_reducible first | exact HB.out | apply below_alloc | apply pw_below_drewN | apply below_drew1) | exact HB.out)) hb)
     clear HB
     have HB := n0_
     clear n0_
     (try clear hb)
     (try clear hb2)
     (try clear hk)
     (try clear hi)
     refine hK.out _ _ trivial (fun hHeld => ?_)
     clear hK K
     refine norm_ (a' := ?_) ?_ ?_
     rotate_left
     ·show Act.put _ (some 25) _ = _
      simp only [Act.put, List.setIfInBounds_toArray, List.set_cons_zero, List.set_cons_succ, i64_w, i32_w]
      rfl
     refine one_ (i := 8) (N := some 26) #[true, true, true, true, true, true, true, true, true, false] rfl rfl (one_of HT_.out (by kernel_rfl)) (by decide) (fun K hK => ?_)
     refine goes_ Tryd.func35 (by kernel_rfl) rfl #[.string t436, .string t438] (by rfl) rfl rfl (by (try simp only [List.map_toArray, List.map_cons, List.map_nil]); first | done | rfl | (simp only [List.length_drop, List.length_take]; rfl)) ?_
     with_reducible refine (aircheckref02_Node.calls k t436 t438 t439 _ A16.out).mono ?_
     rintro e w22 ⟨rfl, hb⟩
     refine ⟨_, rfl, ?_⟩
     have n0_ := Aside0.mk (below_step (by repeat (first | (with_reducible first | exact HB.out | apply below_alloc | apply pw_below_drewN | apply below_drew1) | exact HB.out)) hb)
     clear HB
     have HB := n0_
     clear n0_
     (try clear hb)
     (try clear hb2)
     (try clear hk)
     (try clear hi)
     refine hK.out _ _ trivial (fun hHeld => ?_)
     clear hK K
     refine norm_ (a' := ?_) ?_ ?_
     rotate_left
     ·show Act.put _ (some 26) _ = _
      simp only [Act.put, List.setIfInBounds_toArray, List.set_cons_zero, List.set_cons_succ, i64_w, i32_w]
      rfl
     refine pure_ (i := 9) (N := some 2) (v := ?_) (a' := ?_) #[true, true, true, true, true, true, true, true, true, true] rfl rfl (any_of HT_.out (by kernel_rfl)) (fun _ _ _ h => h) (Or.inl ⟨by rfl, ?_⟩) ?_ ?_
     rotate_left
     ·intro w'
      go_simp
      with_reducible rfl
     rotate_left
     ·simp only [Act.put, List.setIfInBounds_toArray, List.set_cons_zero, List.set_cons_succ, i64_w, i32_w]
      rfl
     refine done_ (done_of HT_.out (by kernel_rfl)) ?_
     try go_wp2
     go_ret
     exact ⟨by first | rfl | (simp [errW_none, errW_some] <;> rfl) | (simp [*, errW_none, errW_some] <;> rfl), by repeat (first | (with_reducible first | exact HB.out | apply below_alloc | apply pw_below_drewN | apply below_drew1) | exact HB.out)⟩
    ·rw [if_neg c11] at H
     exact absurd H (by simp)
   ·rw [if_neg c10] at H
    exact absurd H (by simp)
end Go.Proofs.YtlmlimihgohchaaDoor.PD
end
section
/-
  The reference's trees are the trees.
-/
set_option linter.unusedVariables false
set_option linter.unusedSimpArgs false
namespace Go.Proofs.YtlmlimihgohchaaDoor.RefSpec
open Go.RowKit Go.Proofs.YtlmlimihgohchaaDoorW.PrintWords Go.Proofs.YtlmlimihgohchaaDoorW.PrintLast Go.Proofs.YtlmlimihgohchaaDoorW.PrintMore Go.Proofs.YtlmlimihgohchaaDoor.Ext Go.Proofs.YtlmlimihgohchaaDoor.PD Go.Proofs.YtlmlimihgohchaaDoor.DigSpec
theorem ref_leaf (s : ByteArray) (h : s.size ≤ 2000) (k : Nat) (hk : 5000 ≤ k) : aircheckref02_Leaf.f k s = some (Ext.hash (preL s)) := by
  unfold aircheckref02_Leaf.f
  rw [if_pos (by omega), show (⟨#[0]⟩ : ByteArray) ++ s = preL s from rfl, refsum_is _ (by rw [zero_size]; omega) k (by rw [zero_size]; omega)]
  rfl
theorem ref_node (a b : ByteArray) (ha : a.size ≤ 1000) (hb : b.size ≤ 1000) (k : Nat) (hk : 5000 ≤ k) : aircheckref02_Node.f k a b = some (Ext.hash (preN a b)) := by
  unfold aircheckref02_Node.f
  rw [if_pos (by omega), if_pos (by rw [ByteArray.size_append]; show 1 + _ + _ ≤ _; omega), preN_assoc, refsum_is _ (by rw [one_size]; omega) k (by rw [one_size]; omega)]
  rfl
theorem rleft_l0 (n : Nat) (hn : n ≤ 9223372036854775807) : ∀ (d j k : Nat), 2 ^ j < n → n ≤ 2 ^ (j + d + 1) → d < k →
    aircheckref02_Left.l0 k (n : Int) ((2 ^ j : Nat) : Int) = some ((Tree.left n : Nat) : Int) := by
  intro d
  induction d with
  | zero =>
    intro j k h1 h2 hk
    obtain ⟨k, rfl⟩ := Nat.exists_eq_succ_of_ne_zero (Nat.pos_iff_ne_zero.1 hk)
    have h3 : 2 ^ (j + 0 + 1) = 2 * 2 ^ j := by rw [Nat.add_zero, Nat.pow_succ, Nat.mul_comm]
    have hp := Nat.two_pow_pos j
    rw [h3] at h2
    unfold aircheckref02_Left.l0
    rw [w64 (by omega) (by omega), if_neg (by omega), Tree.left_eq h1 h2]
  | succ d ih =>
    intro j k h1 h2 hk
    obtain ⟨k, rfl⟩ := Nat.exists_eq_succ_of_ne_zero (Nat.pos_iff_ne_zero.1 (Nat.lt_of_le_of_lt (Nat.zero_le _) hk))
    have h3 : 2 ^ (j + 1) = 2 * 2 ^ j := by rw [Nat.pow_succ, Nat.mul_comm]
    have hp := Nat.two_pow_pos j
    unfold aircheckref02_Left.l0
    rw [w64 (by omega) (by omega)]
    by_cases h4 : 2 ^ (j + 1) < n
    · rw [if_pos (by omega), w64 (by omega) (by omega), show (2 * ((2 ^ j : Nat) : Int)) = ((2 ^ (j + 1) : Nat) : Int) by omega]
      exact ih (j + 1) k h4 (by rw [show j + 1 + d + 1 = j + (d + 1) + 1 by omega]; exact h2) (by omega)
    · rw [if_neg (by omega), Tree.left_eq h1 (by omega)]
theorem rleft_is (n k : Nat) (h2 : 2 ≤ n) (hn : n ≤ 9223372036854775807) (hk : 63 < k) : aircheckref02_Left.f k (n : Int) = some ((Tree.left n : Nat) : Int) := by
  unfold aircheckref02_Left.f
  exact rleft_l0 n hn 63 0 k (by omega) (by omega) (by omega)
theorem ref_root (l : List ByteArray) (hl : l.length ≤ 1000) (hs : ∀ x ∈ l, x.size ≤ 1000) (k : Nat) (hk : 6000 + l.length ≤ k) : aircheckref02_Root.f k l = some (rt l) := by
  induction hn : l.length using Nat.strongRecOn generalizing l k with
  | _ n ih =>
    subst hn
    obtain ⟨k, rfl⟩ : ∃ q, k = q + 1 := ⟨k - 1, by omega⟩
    rw [aircheckref02_Root.f]
    by_cases h0 : l.length = 0
    · obtain rfl := List.eq_nil_of_length_eq_zero h0
      rw [if_pos (by simp), refsum_is _ (by decide) _ (by have hz : (⟨#[]⟩ : ByteArray).size = 0 := rfl; omega), Option.bind_some]
      exact congrArg some (Tree.root_nil _ _ _).symm
    · rw [if_neg (by omega)]
      by_cases h1 : l.length = 1
      · obtain ⟨x, rfl⟩ := List.length_eq_one_iff.1 h1
        rw [if_pos (by simp), if_pos (by simp), show rdOf ByteArray.empty [x] (0 : Int) = x from rfl, ref_leaf x (by have := hs x (by simp); omega) k (by omega), Option.bind_some]
        exact congrArg some (Tree.root_one dE dL dN x).symm
      · have hlt := Tree.left_lt (n := l.length) (by omega)
        have hp := Tree.left_pos l.length
        have c1 := ih (l.take (Tree.left l.length)).length (by rw [List.length_take]; omega) (l.take (Tree.left l.length)) (by rw [List.length_take]; omega) (fun x hx => hs x (List.mem_of_mem_take hx)) k (by rw [List.length_take]; omega) rfl
        have c2 := ih (l.drop (Tree.left l.length)).length (by rw [List.length_drop]; omega) (l.drop (Tree.left l.length)) (by rw [List.length_drop]; omega) (fun x hx => hs x (List.mem_of_mem_drop hx)) k (by rw [List.length_drop]; omega) rfl
        rw [if_neg (by omega), rleft_is _ k (by omega) (by omega) (by omega), Option.bind_some, if_pos (by omega), if_pos (by omega), Int.toNat_natCast, c1, Option.bind_some, c2, Option.bind_some, ref_node _ _ (by rw [root_size]; omega) (by rw [root_size]; omega) k (by omega), Option.bind_some]
        exact congrArg some (Tree.root_big dE dL dN (l := l) (by omega)).symm
end Go.Proofs.YtlmlimihgohchaaDoor.RefSpec
end
