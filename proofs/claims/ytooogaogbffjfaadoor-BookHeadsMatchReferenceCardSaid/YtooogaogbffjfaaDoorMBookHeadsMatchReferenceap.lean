import Derived.Test.YtooogaogbffjfaaDoorMBookHeadsMatchReferenceah
import Derived.Test.YtooogaogbffjfaaDoorMBookHeadsMatchReferenceal
import Derived.Test.YtooogaogbffjfaaDoorMBookHeadsMatchReferenceao
/-
  Texts of this claim, one behind the other: what they prove stands above each.
-/
section
namespace Go.Proofs.YtooogaogbffjfaaDoor.PB
open Go.Proofs.YtooogaogbffjfaaDoor.Ext
attribute [local go_sem] u32_signed u32_max
open Go.RowKit Go.Proofs.YtooogaogbffjfaaDoorW.PrintWords Go.Proofs.YtooogaogbffjfaaDoorW.PrintLast Go.Proofs.YtooogaogbffjfaaDoorW.PrintMore
attribute [local go_sem] max2_int min2_int max_two min_two max_three min_three max_four min_four -- for this text's walks alone
set_option linter.unusedVariables false
set_option linter.unusedSimpArgs false
mutual
def aircheckref02_block.l0 : Nat → List Int → List Int → List Int → Int → Option (List Int)
 | 0, _, _, _, _ => none
 | k + 1, x0, x1, x5, x6 => if x6 < 16 then (if 0 ≤ (wrap64 (4 * x6)) then (if (wrap64 (4 * x6)) < (x1.length : Int) then (if 0 ≤ (wrap64 ((wrap64 (4 * x6)) + 1)) then (if (wrap64 ((wrap64 (4 * x6)) + 1)) < (x1.length : Int) then (if 0 ≤ (wrap64 ((wrap64 (4 * x6)) + 2)) then (if (wrap64 ((wrap64 (4 * x6)) + 2)) < (x1.length : Int) then (if 0 ≤ (wrap64 ((wrap64 (4 * x6)) + 3)) then (if (wrap64 ((wrap64 (4 * x6)) + 3)) < (x1.length : Int) then (if x5.length < 35184372088832 then (aircheckref02_block.l0 k x0 x1 (x5 ++ [Go.bits .or .u32 (Go.bits .or .u32 (Go.bits .or .u32 ((((rd x1 (wrap64 (4 * x6))) % 4294967296) * 16777216) % 4294967296) ((((rd x1 (wrap64 ((wrap64 (4 * x6)) + 1))) % 4294967296) * 65536) % 4294967296)) ((((rd x1 (wrap64 ((wrap64 (4 * x6)) + 2))) % 4294967296) * 256) % 4294967296)) ((rd x1 (wrap64 ((wrap64 (4 * x6)) + 3))) % 4294967296)]) (wrap64 (x6 + 1))) else (none)) else (none)) else (none)) else (none)) else (none)) else (none)) else (none)) else (none)) else (none)) else (aircheckref02_block.l1 k x0 x5 16)
def aircheckref02_block.l1 : Nat → List Int → List Int → Int → Option (List Int)
 | 0, _, _, _ => none
 | k + 1, x0, x5, x7 => if x7 < 64 then (if 0 ≤ (wrap64 (x7 - 15)) then (if (wrap64 (x7 - 15)) < (x5.length : Int) then ((aircheckref02_rotated.f (rd x5 (wrap64 (x7 - 15))) 7).bind fun t333 => ((aircheckref02_rotated.f (rd x5 (wrap64 (x7 - 15))) 18).bind fun t335 => (if 0 ≤ (wrap64 (x7 - 2)) then (if (wrap64 (x7 - 2)) < (x5.length : Int) then ((aircheckref02_rotated.f (rd x5 (wrap64 (x7 - 2))) 17).bind fun t338 => ((aircheckref02_rotated.f (rd x5 (wrap64 (x7 - 2))) 19).bind fun t340 => (if 0 ≤ (wrap64 (x7 - 16)) then (if (wrap64 (x7 - 16)) < (x5.length : Int) then (if 0 ≤ (wrap64 (x7 - 7)) then (if (wrap64 (x7 - 7)) < (x5.length : Int) then (if x5.length < 35184372088832 then (aircheckref02_block.l1 k x0 (x5 ++ [((((((rd x5 (wrap64 (x7 - 16))) + (Go.bits .xor .u32 (Go.bits .xor .u32 t333 t335) ((rd x5 (wrap64 (x7 - 15))) / 8))) % 4294967296) + (rd x5 (wrap64 (x7 - 7)))) % 4294967296) + (Go.bits .xor .u32 (Go.bits .xor .u32 t338 t340) ((rd x5 (wrap64 (x7 - 2))) / 1024))) % 4294967296]) (wrap64 (x7 + 1))) else (none)) else (none)) else (none)) else (none)) else (none)))) else (none)) else (none)))) else (none)) else (none)) else ((aircheckref02_constants.f).bind fun t347 => (if ([] : List Int).length + x0.length < 35184372088832 then (aircheckref02_block.l2 k x0 x5 t347 (([] : List Int) ++ x0) 0) else (none)))
def aircheckref02_block.l2 : Nat → List Int → List Int → List Int → List Int → Int → Option (List Int)
 | 0, _, _, _, _, _ => none
 | k + 1, x0, x5, x10, x11, x12 => if x12 < 64 then (if 0 < (x11.length : Int) then (if 4 < (x11.length : Int) then (if 7 < (x11.length : Int) then ((aircheckref02_rotated.f (rd x11 4) 6).bind fun t356 => ((aircheckref02_rotated.f (rd x11 4) 11).bind fun t357 => ((aircheckref02_rotated.f (rd x11 4) 25).bind fun t358 => (if 5 < (x11.length : Int) then (if 6 < (x11.length : Int) then (if 0 ≤ x12 then (if x12 < (x10.length : Int) then (if x12 < (x5.length : Int) then ((aircheckref02_rotated.f (rd x11 0) 2).bind fun t363 => ((aircheckref02_rotated.f (rd x11 0) 13).bind fun t364 => ((aircheckref02_rotated.f (rd x11 0) 22).bind fun t365 => (if 1 < (x11.length : Int) then (if 2 < (x11.length : Int) then (if 3 < (x11.length : Int) then (aircheckref02_block.l2 k x0 x5 x10 (([((((((((((rd x11 7) + (Go.bits .xor .u32 (Go.bits .xor .u32 t356 t357) t358)) % 4294967296) + (Go.bits .xor .u32 (Go.bits .and .u32 (rd x11 4) (rd x11 5)) (Go.bits .and .u32 (Go.bits .xor .u32 4294967295 (rd x11 4)) (rd x11 6)))) % 4294967296) + (rd x10 x12)) % 4294967296) + (rd x5 x12)) % 4294967296) + (((Go.bits .xor .u32 (Go.bits .xor .u32 t363 t364) t365) + (Go.bits .xor .u32 (Go.bits .xor .u32 (Go.bits .and .u32 (rd x11 0) (rd x11 1)) (Go.bits .and .u32 (rd x11 0) (rd x11 2))) (Go.bits .and .u32 (rd x11 1) (rd x11 2)))) % 4294967296)) % 4294967296, rd x11 0, rd x11 1, rd x11 2, ((rd x11 3) + (((((((((rd x11 7) + (Go.bits .xor .u32 (Go.bits .xor .u32 t356 t357) t358)) % 4294967296) + (Go.bits .xor .u32 (Go.bits .and .u32 (rd x11 4) (rd x11 5)) (Go.bits .and .u32 (Go.bits .xor .u32 4294967295 (rd x11 4)) (rd x11 6)))) % 4294967296) + (rd x10 x12)) % 4294967296) + (rd x5 x12)) % 4294967296)) % 4294967296, rd x11 4, rd x11 5, rd x11 6] : List Int)) (wrap64 (x12 + 1))) else (none)) else (none)) else (none))))) else (none)) else (none)) else (none)) else (none)) else (none))))) else (none)) else (none)) else (none)) else (aircheckref02_block.l3 k x0 x11 ([] : List Int) 0)
def aircheckref02_block.l3 : Nat → List Int → List Int → List Int → Int → Option (List Int)
 | 0, _, _, _, _ => none
 | k + 1, x0, x11, x17, x18 => if x18 < 8 then (if 0 ≤ x18 then (if x18 < (x0.length : Int) then (if x18 < (x11.length : Int) then (if x17.length < 35184372088832 then (aircheckref02_block.l3 k x0 x11 (x17 ++ [((rd x0 x18) + (rd x11 x18)) % 4294967296]) (wrap64 (x18 + 1))) else (none)) else (none)) else (none)) else (none)) else (some x17)
end
def aircheckref02_block.f (k : Nat) (l0 : List Int) (l1 : List Int) : Option (List Int) := aircheckref02_block.l0 k l0 l1 ([] : List Int) 0
def aircheckref02_block.T5 : Bool × List (List Nat × List Nat) := (true, [([], []), ([], []), ([], []), ([2], [2]), ([1, 3], [1, 3]), ([4], [4]), ([5], [5]), ([6], [6]), ([], []), ([], []), ([9], [9]), ([10], [10]), ([8, 11], [8, 11]), ([12], [12]), ([13], [13]), ([14], [14]), ([7, 15], [7, 15]), ([], []), ([], []), ([18], [18]), ([19], [19]), ([17, 20], [17, 20]), ([21], [21]), ([22], [22]), ([23], [23]), ([16, 24], [16, 24]), ([], []), ([], []), ([27], [27]), ([28], [28]), ([26, 29], [26, 29]), ([30], [30]), ([31], [31]), ([25, 32], [25, 32]), ([33], [33]), ([0, 34], [0, 34]), ([35, 35, 0, 1, 2, 3, 4, 5, 6, 7, 8, 9, 10, 11, 12, 13, 14, 15, 16, 17, 18, 19, 20, 21, 22, 23, 24, 25, 26, 27, 28, 29, 30, 31, 32, 33, 34, 35], [0, 35])])
def aircheckref02_block.B5 : List Nat := [0, 0, 0, 4, 14, 30, 62, 126, 0, 0, 512, 1536, 3840, 7936, 16128, 32512, 65534, 0, 0, 262144, 786432, 1966080, 4063232, 8257536, 16646144, 33554430, 0, 0, 134217728, 402653184, 1006632960, 2080374784, 4227858432, 8589934590, 17179869182, 34359738367, 68719476735]
theorem aircheckref02_block.tab5 : rtab .any (opsOf Tryd.f39 5) = aircheckref02_block.T5 := by kernel_rfl
theorem aircheckref02_block.bits5 : waitsOk aircheckref02_block.T5.2 aircheckref02_block.B5 = true := by kernel_rfl
def aircheckref02_block.T9 : Bool × List (List Nat × List Nat) := (true, [([], []), ([], []), ([1], [1]), ([0, 2], [0, 2]), ([3], [3]), ([4], [4]), ([], []), ([], []), ([7], [7]), ([6, 8], [6, 8]), ([9], [9]), ([10, 5], [10]), ([5, 11], [5, 11]), ([], []), ([], []), ([14], [14]), ([13, 15], [13, 15]), ([16], [16]), ([17], [17]), ([12, 18], [12, 18]), ([19, 11, 0, 1, 2, 3, 4, 5, 6, 7, 8, 9, 10, 11, 12, 13, 14, 15, 16, 17, 18, 19], [19])])
def aircheckref02_block.B9 : List Nat := [0, 0, 2, 7, 15, 31, 0, 0, 128, 448, 960, 2047, 4095, 0, 0, 16384, 57344, 122880, 253952, 524287, 1048575]
theorem aircheckref02_block.tab9 : rtab .any (opsOf Tryd.f39 9) = aircheckref02_block.T9 := by kernel_rfl
theorem aircheckref02_block.bits9 : waitsOk aircheckref02_block.T9.2 aircheckref02_block.B9 = true := by kernel_rfl
def aircheckref02_block.T10 : Bool × List (List Nat × List Nat) := (true, [([], []), ([], []), ([1], [1]), ([0, 2], [0, 2]), ([3], [3]), ([4], [4]), ([], []), ([], []), ([7], [7]), ([6, 8], [6, 8]), ([9], [9]), ([10, 5], [10]), ([5, 11], [5, 11]), ([], []), ([], []), ([14], [14]), ([13, 15], [13, 15]), ([16], [16]), ([17], [17]), ([12, 18], [12, 18]), ([19, 11, 0, 1, 2, 3, 4, 5, 6, 7, 8, 9, 10, 11, 12, 13, 14, 15, 16, 17, 18, 19], [19])])
def aircheckref02_block.B10 : List Nat := [0, 0, 2, 7, 15, 31, 0, 0, 128, 448, 960, 2047, 4095, 0, 0, 16384, 57344, 122880, 253952, 524287, 1048575]
theorem aircheckref02_block.tab10 : rtab .any (opsOf Tryd.f39 10) = aircheckref02_block.T10 := by kernel_rfl
theorem aircheckref02_block.bits10 : waitsOk aircheckref02_block.T10.2 aircheckref02_block.B10 = true := by kernel_rfl
def aircheckref02_block.T11 : Bool × List (List Nat × List Nat) := (true, [([], []), ([], []), ([], []), ([2], [2]), ([1, 3], [1, 3]), ([4], [4]), ([], []), ([5, 6], [5, 6]), ([], []), ([], []), ([9], [9]), ([8, 10], [8, 10]), ([11], [11]), ([7, 12], [7, 12]), ([], []), ([13, 14], [13, 14]), ([15], [15]), ([0, 16], [0, 16]), ([17, 17, 0, 1, 2, 3, 4, 5, 6, 7, 8, 9, 10, 11, 12, 13, 14, 15, 16, 17], [0, 1, 8, 17])])
def aircheckref02_block.B11 : List Nat := [0, 0, 0, 4, 14, 30, 0, 126, 0, 0, 512, 1792, 3840, 8190, 0, 32766, 65534, 131071, 262143]
theorem aircheckref02_block.tab11 : rtab .any (opsOf Tryd.f39 11) = aircheckref02_block.T11 := by kernel_rfl
theorem aircheckref02_block.bits11 : waitsOk aircheckref02_block.T11.2 aircheckref02_block.B11 = true := by kernel_rfl
def aircheckref02_block.T20 : Bool × List (List Nat × List Nat) := (true, [([], []), ([0], [0]), ([1], [1]), ([], []), ([3], [3]), ([], []), ([5, 4], [5]), ([4, 6], [4, 6]), ([], []), ([8, 6], [8]), ([7, 9], [7, 9]), ([2, 10], [2, 10]), ([], []), ([], []), ([13], [13]), ([14], [14]), ([12, 15], [12, 15]), ([], []), ([17], [17]), ([], []), ([19], [19]), ([20], [20]), ([18, 21], [18, 21]), ([16, 22], [16, 22]), ([11, 23], [11, 23]), ([], []), ([], []), ([25, 26], [25, 26]), ([27], [27]), ([24, 28], [24, 28]), ([], []), ([], []), ([30, 31], [30, 31]), ([32], [32]), ([29, 33], [29, 33]), ([34, 9, 0, 1, 2, 3, 4, 5, 6, 7, 8, 9, 10, 11, 12, 13, 14, 15, 16, 17, 18, 19, 20, 21, 22, 23, 24, 25, 26, 27, 28, 29, 30, 31, 32, 33, 34], [34])])
def aircheckref02_block.B20 : List Nat := [0, 1, 3, 0, 8, 0, 56, 120, 0, 376, 1016, 2047, 0, 0, 8192, 24576, 61440, 0, 131072, 0, 524288, 1572864, 4063232, 8384512, 16777215, 0, 0, 100663296, 234881024, 536870911, 0, 0, 3221225472, 7516192768, 17179869183, 34359738367]
theorem aircheckref02_block.tab20 : rtab .any (opsOf Tryd.f39 20) = aircheckref02_block.T20 := by kernel_rfl
theorem aircheckref02_block.bits20 : waitsOk aircheckref02_block.T20.2 aircheckref02_block.B20 = true := by kernel_rfl
def aircheckref02_block.T21 : Bool × List (List Nat × List Nat) := (true, [([], []), ([0], [0]), ([], []), ([2, 1], [2]), ([1, 3], [1, 3]), ([], []), ([5, 3], [5]), ([4, 6], [4, 6]), ([], []), ([], []), ([9], [9]), ([10], [10]), ([8, 11], [8, 11]), ([], []), ([], []), ([14], [14]), ([15], [15]), ([13, 16], [13, 16]), ([12, 17], [12, 17]), ([], []), ([19], [19]), ([20], [20]), ([], []), ([22], [22]), ([23], [23]), ([21, 24], [21, 24]), ([18, 25], [18, 25]), ([7, 26], [7, 26]), ([27, 6, 0, 1, 2, 3, 4, 5, 6, 7, 8, 9, 10, 11, 12, 13, 14, 15, 16, 17, 18, 19, 20, 21, 22, 23, 24, 25, 26, 27], [27])])
def aircheckref02_block.B21 : List Nat := [0, 1, 0, 7, 15, 0, 47, 127, 0, 0, 512, 1536, 3840, 0, 0, 16384, 49152, 122880, 261888, 0, 524288, 1572864, 0, 4194304, 12582912, 33030144, 67108608, 134217727, 268435455]
theorem aircheckref02_block.tab21 : rtab .any (opsOf Tryd.f39 21) = aircheckref02_block.T21 := by kernel_rfl
theorem aircheckref02_block.bits21 : waitsOk aircheckref02_block.T21.2 aircheckref02_block.B21 = true := by kernel_rfl
def aircheckref02_block.T22 : Bool × List (List Nat × List Nat) := (true, [([], []), ([], []), ([0, 1], [0, 1]), ([], []), ([], []), ([4], [4]), ([5], [5]), ([], []), ([7], [7]), ([8], [8]), ([], []), ([10], [10]), ([11], [11]), ([], []), ([12, 13], [12, 13]), ([], []), ([], []), ([16], [16]), ([17], [17]), ([], []), ([19], [19]), ([20], [20]), ([2, 3, 6, 9, 14, 15, 18, 21], [2, 3, 6, 9, 14, 15, 18, 21]), ([22, 0, 1, 2, 3, 4, 5, 6, 7, 8, 9, 10, 11, 12, 13, 14, 15, 16, 17, 18, 19, 20, 21, 22], [4, 7, 10, 16, 19, 22])])
def aircheckref02_block.B22 : List Nat := [0, 0, 3, 0, 0, 16, 48, 0, 128, 384, 0, 1024, 3072, 0, 15360, 0, 0, 65536, 196608, 0, 524288, 1572864, 4194303, 8388607]
theorem aircheckref02_block.tab22 : rtab .any (opsOf Tryd.f39 22) = aircheckref02_block.T22 := by kernel_rfl
theorem aircheckref02_block.bits22 : waitsOk aircheckref02_block.T22.2 aircheckref02_block.B22 = true := by kernel_rfl
def aircheckref02_block.T27 : Bool × List (List Nat × List Nat) := (true, [([], []), ([], []), ([], []), ([1, 2], [1, 2]), ([3], [3]), ([], []), ([], []), ([5, 6], [5, 6]), ([7], [7]), ([4, 8], [4, 8]), ([9], [9]), ([0, 10], [0, 10]), ([11, 11, 0, 1, 2, 3, 4, 5, 6, 7, 8, 9, 10, 11], [0, 11])])
def aircheckref02_block.B27 : List Nat := [0, 0, 0, 6, 14, 0, 0, 96, 224, 510, 1022, 2047, 4095]
theorem aircheckref02_block.tab27 : rtab .any (opsOf Tryd.f39 27) = aircheckref02_block.T27 := by kernel_rfl
theorem aircheckref02_block.bits27 : waitsOk aircheckref02_block.T27.2 aircheckref02_block.B27 = true := by kernel_rfl
set_option maxHeartbeats 8000000 in
set_option maxRecDepth 100000 in
theorem aircheckref02_block.calls (k : Nat) (A0 : Option Addr) (c0 : Nat) (l0 : List Int) (A1 : Option Addr) (c1 : Nat) (l1 : List Int) (r : List Int) (w : World) (hr0 : Kd.C (Kd.int .u32) w A0 l0.length l0) (hc0 : l0.length ≤ c0) (hr1 : Kd.C (Kd.int .u8) w A1 l1.length l1) (hc1 : l1.length ≤ c1) (h : aircheckref02_block.f k l0 l1 = some r) :
  Calls Tryd.prog 39 #[.slice A0 l0.length c0, .slice A1 l1.length c1] w fun e w' => ∃ v0_ : Value, e = .returned (v0_) ∧ Kd.R (Kd.int .u32) 77 w' w.heap.size (fun _ => True) v0_ r ∧ Below w.heap.size w w' := by
 have HR0 := Aside0.mk hr0
 have HC0 := Aside0.mk hc0
 clear hr0 hc0
 have HR1 := Aside0.mk hr1
 have HC1 := Aside0.mk hc1
 clear hr1 hc1
 have HB := Aside0.mk (Below.refl w.heap.size w)
 have H : (aircheckref02_block.l0 k l0 l1 ([] : List Int) 0) = some r := h
 clear h
 have H' := Aside0.mk H
 clear H
 go_enter Tryd.func39, Tryd.ntmps39
 go_wp2
 go_loopg [5, 6] k (fun kq v5 v6 w' => ∃ (x5_1 : List Int) (x6_1 : Int), v6 = .int .i64 x6_1 ∧ Aside0 (aircheckref02_block.l0 kq l0 l1 x5_1 x6_1 = some r) ∧ Aside0 (kq ≤ k) ∧ Aside0 (Kd.R (Kd.int .u32) 77 w' w.heap.size (fun _ => True) v5 x5_1) ∧ Aside0 (Below w.heap.size w w'))
 case atStart => exact ⟨(([] : List Int)), (0), (by first | rfl | (simp; done) | (simp [*]; done)), H', ⟨Nat.le_refl _⟩, ⟨by first | exact Kd.R_nil _ _ _ _ _ | exact Kd.N_nil _ _ _ _ _ | exact Kd.V_nil _ _ _ _ _ | exact Kd.Q_nil _ _ _ _ _ | exact Kd.S_nil _ _ _ _ _⟩, ⟨by repeat (first | (with_reducible first | exact HB.out | apply below_alloc | apply pw_below_drewN | apply below_drew1) | exact HB.out)⟩⟩
 case round =>
  clear H'
  try clear c1
  try clear p2
  obtain ⟨x5_1, x6_1, rfl, HA, HK1, HO_5, HB⟩ := hrel
  cases gk with
  | zero => exact absurd HA.out (by simp [aircheckref02_block.l0])
  | succ k1 =>
   have H := HA.out
   clear HA
   simp only [aircheckref02_block.l0] at H
   by_cases c3 : x6_1 < 16
   ·rw [if_pos c3] at H
    have c3b0 : decide (x6_1 < 16) = true := decide_eq_true c3
    clear c3
    obtain ⟨ji4, hji4⟩ : ∃ j_ : Int, (wrap64 (4 * x6_1)) = j_ := ⟨_, rfl⟩
    replace H : (if 0 ≤ (ji4) then (if (ji4) < (l1.length : Int) then (if 0 ≤ (wrap64 ((ji4) + 1)) then (if (wrap64 ((ji4) + 1)) < (l1.length : Int) then (if 0 ≤ (wrap64 ((ji4) + 2)) then (if (wrap64 ((ji4) + 2)) < (l1.length : Int) then (if 0 ≤ (wrap64 ((ji4) + 3)) then (if (wrap64 ((ji4) + 3)) < (l1.length : Int) then (if x5_1.length < 35184372088832 then (aircheckref02_block.l0 k1 l0 l1 (x5_1 ++ [Go.bits .or .u32 (Go.bits .or .u32 (Go.bits .or .u32 ((((rd l1 (ji4)) % 4294967296) * 16777216) % 4294967296) ((((rd l1 (wrap64 ((ji4) + 1))) % 4294967296) * 65536) % 4294967296)) ((((rd l1 (wrap64 ((ji4) + 2))) % 4294967296) * 256) % 4294967296)) ((rd l1 (wrap64 ((ji4) + 3))) % 4294967296)]) (wrap64 (x6_1 + 1))) else (none)) else (none)) else (none)) else (none)) else (none)) else (none)) else (none)) else (none)) else (none)) = some r := by first | (rw [hji4] at H; exact H) | (simp only [hji4] at H ⊢; exact H)
    have hji4w : (IntKind.i64.wrap (4 * x6_1)) = ji4 := (i64_w _).trans hji4
    by_cases c5 : 0 ≤ (ji4)
    ·rw [if_pos c5] at H
     have c5b0 : decide (0 ≤ (ji4)) = true := decide_eq_true c5
     clear c5
     by_cases c6 : (ji4) < (l1.length : Int)
     ·rw [if_pos c6] at H
      have c6b0 : decide ((ji4) < (l1.length : Int)) = true := decide_eq_true c6
      clear c6
      obtain ⟨ji7, hji7⟩ : ∃ j_ : Int, (wrap64 ((ji4) + 1)) = j_ := ⟨_, rfl⟩
      replace H : (if 0 ≤ (ji7) then (if (ji7) < (l1.length : Int) then (if 0 ≤ (wrap64 ((ji4) + 2)) then (if (wrap64 ((ji4) + 2)) < (l1.length : Int) then (if 0 ≤ (wrap64 ((ji4) + 3)) then (if (wrap64 ((ji4) + 3)) < (l1.length : Int) then (if x5_1.length < 35184372088832 then (aircheckref02_block.l0 k1 l0 l1 (x5_1 ++ [Go.bits .or .u32 (Go.bits .or .u32 (Go.bits .or .u32 ((((rd l1 (ji4)) % 4294967296) * 16777216) % 4294967296) ((((rd l1 (ji7)) % 4294967296) * 65536) % 4294967296)) ((((rd l1 (wrap64 ((ji4) + 2))) % 4294967296) * 256) % 4294967296)) ((rd l1 (wrap64 ((ji4) + 3))) % 4294967296)]) (wrap64 (x6_1 + 1))) else (none)) else (none)) else (none)) else (none)) else (none)) else (none)) else (none)) = some r := by first | (rw [hji7] at H; exact H) | (simp only [hji7] at H ⊢; exact H)
      have hji7w : (IntKind.i64.wrap ((ji4) + 1)) = ji7 := (i64_w _).trans hji7
      by_cases c8 : 0 ≤ (ji7)
      ·rw [if_pos c8] at H
       have c8b0 : decide (0 ≤ (ji7)) = true := decide_eq_true c8
       clear c8
       by_cases c9 : (ji7) < (l1.length : Int)
       ·rw [if_pos c9] at H
        have c9b0 : decide ((ji7) < (l1.length : Int)) = true := decide_eq_true c9
        clear c9
        obtain ⟨ji10, hji10⟩ : ∃ j_ : Int, (wrap64 ((ji4) + 2)) = j_ := ⟨_, rfl⟩
        replace H : (if 0 ≤ (ji10) then (if (ji10) < (l1.length : Int) then (if 0 ≤ (wrap64 ((ji4) + 3)) then (if (wrap64 ((ji4) + 3)) < (l1.length : Int) then (if x5_1.length < 35184372088832 then (aircheckref02_block.l0 k1 l0 l1 (x5_1 ++ [Go.bits .or .u32 (Go.bits .or .u32 (Go.bits .or .u32 ((((rd l1 (ji4)) % 4294967296) * 16777216) % 4294967296) ((((rd l1 (ji7)) % 4294967296) * 65536) % 4294967296)) ((((rd l1 (ji10)) % 4294967296) * 256) % 4294967296)) ((rd l1 (wrap64 ((ji4) + 3))) % 4294967296)]) (wrap64 (x6_1 + 1))) else (none)) else (none)) else (none)) else (none)) else (none)) = some r := by first | (rw [hji10] at H; exact H) | (simp only [hji10] at H ⊢; exact H)
        have hji10w : (IntKind.i64.wrap ((ji4) + 2)) = ji10 := (i64_w _).trans hji10
        by_cases c11 : 0 ≤ (ji10)
        ·rw [if_pos c11] at H
         have c11b0 : decide (0 ≤ (ji10)) = true := decide_eq_true c11
         clear c11
         by_cases c12 : (ji10) < (l1.length : Int)
         ·rw [if_pos c12] at H
          have c12b0 : decide ((ji10) < (l1.length : Int)) = true := decide_eq_true c12
          clear c12
          obtain ⟨ji13, hji13⟩ : ∃ j_ : Int, (wrap64 ((ji4) + 3)) = j_ := ⟨_, rfl⟩
          replace H : (if 0 ≤ (ji13) then (if (ji13) < (l1.length : Int) then (if x5_1.length < 35184372088832 then (aircheckref02_block.l0 k1 l0 l1 (x5_1 ++ [Go.bits .or .u32 (Go.bits .or .u32 (Go.bits .or .u32 ((((rd l1 (ji4)) % 4294967296) * 16777216) % 4294967296) ((((rd l1 (ji7)) % 4294967296) * 65536) % 4294967296)) ((((rd l1 (ji10)) % 4294967296) * 256) % 4294967296)) ((rd l1 (ji13)) % 4294967296)]) (wrap64 (x6_1 + 1))) else (none)) else (none)) else (none)) = some r := by first | (rw [hji13] at H; exact H) | (simp only [hji13] at H ⊢; exact H)
          have hji13w : (IntKind.i64.wrap ((ji4) + 3)) = ji13 := (i64_w _).trans hji13
          by_cases c14 : 0 ≤ (ji13)
          ·rw [if_pos c14] at H
           have c14b0 : decide (0 ≤ (ji13)) = true := decide_eq_true c14
           clear c14
           by_cases c15 : (ji13) < (l1.length : Int)
           ·rw [if_pos c15] at H
            have c15b0 : decide ((ji13) < (l1.length : Int)) = true := decide_eq_true c15
            clear c15
            by_cases c16 : x5_1.length < 35184372088832
            ·rw [if_pos c16] at H
             have LMc16 := Aside0.mk c16
             clear c16
             obtain ⟨y329, hy329⟩ : ∃ y_ : List Int, y_ = (x5_1 ++ [Go.bits .or .u32 (Go.bits .or .u32 (Go.bits .or .u32 ((((rd l1 (ji4)) % 4294967296) * 16777216) % 4294967296) ((((rd l1 (ji7)) % 4294967296) * 65536) % 4294967296)) ((((rd l1 (ji10)) % 4294967296) * 256) % 4294967296)) ((rd l1 (ji13)) % 4294967296)]) := ⟨_, rfl⟩
             replace H : (aircheckref02_block.l0 k1 l0 l1 y329 (wrap64 (x6_1 + 1))) = some r := by first | (rw [hy329]; with_reducible exact H) | (have H2_ := (Option.bind_some _ _).symm.trans H; rw [hy329]; with_reducible exact H2_) | (have H2_ := (Option.bind_some _ _).symm.trans H; with_reducible exact H2_) | with_reducible exact H | (rw [hy329]; exact H) | exact H
             have Ny329 := Aside0.mk hy329
             clear hy329
             have H' := Aside0.mk H
             clear H
             try go_wp2
             have n0_ := Aside0.mk (Kd.R_drew HO_5.out)
             have n1_ := Aside0.mk (below_drew1 HB.out)
             clear HO_5
             clear HB
             have HO_5 := n0_
             have HB := n1_
             clear n0_ n1_
             have p325 : 0 ≤ ((ji4) : Int) := of_decide_eq_true (by first | (with_reducible assumption) | assumption)
             have q325 : (ji4) < (l1.length : Int) := of_decide_eq_true (by first | (with_reducible assumption) | assumption)
             obtain ⟨ad325, e325, hx325_0⟩ := Kd.at_int HR1.out (ji4) p325 q325
             have hw325_0 := hx325_0
             cases e325
             replace hx325_0 := (HB.out.cell (World.block_lt_of_cell? w _ hx325_0)).trans hx325_0
             replace p325 := eq_true p325
             replace q325 := eq_true q325
             have p326 : 0 ≤ ((ji7) : Int) := of_decide_eq_true (by first | (with_reducible assumption) | assumption)
             have q326 : (ji7) < (l1.length : Int) := of_decide_eq_true (by first | (with_reducible assumption) | assumption)
             obtain ⟨ad326, e326, hx326_0⟩ := Kd.at_int HR1.out (ji7) p326 q326
             have hw326_0 := hx326_0
             obtain rfl : ad325 = ad326 := (by injection e326)
             replace hx326_0 := (HB.out.cell (World.block_lt_of_cell? w _ hx326_0)).trans hx326_0
             replace p326 := eq_true p326
             replace q326 := eq_true q326
             have p327 : 0 ≤ ((ji10) : Int) := of_decide_eq_true (by first | (with_reducible assumption) | assumption)
             have q327 : (ji10) < (l1.length : Int) := of_decide_eq_true (by first | (with_reducible assumption) | assumption)
             obtain ⟨ad327, e327, hx327_0⟩ := Kd.at_int HR1.out (ji10) p327 q327
             have hw327_0 := hx327_0
             obtain rfl : ad325 = ad327 := (by injection e327)
             replace hx327_0 := (HB.out.cell (World.block_lt_of_cell? w _ hx327_0)).trans hx327_0
             replace p327 := eq_true p327
             replace q327 := eq_true q327
             have p328 : 0 ≤ ((ji13) : Int) := of_decide_eq_true (by first | (with_reducible assumption) | assumption)
             have q328 : (ji13) < (l1.length : Int) := of_decide_eq_true (by first | (with_reducible assumption) | assumption)
             obtain ⟨ad328, e328, hx328_0⟩ := Kd.at_int HR1.out (ji13) p328 q328
             have hw328_0 := hx328_0
             obtain rfl : ad325 = ad328 := (by injection e328)
             replace hx328_0 := (HB.out.cell (World.block_lt_of_cell? w _ hx328_0)).trans hx328_0
             replace p328 := eq_true p328
             replace q328 := eq_true q328
             refine start_ (n := 37) (S := fun w' => w'.cell? (ad325.add ((ji4)).toNat) = some (.int .u8 (rd l1 (ji4))) ∧ w'.cell? (ad325.add ((ji7)).toNat) = some (.int .u8 (rd l1 (ji7))) ∧ w'.cell? (ad325.add ((ji10)).toNat) = some (.int .u8 (rd l1 (ji10))) ∧ w'.cell? (ad325.add ((ji13)).toNat) = some (.int .u8 (rd l1 (ji13)))) (ds := []) (bb 37 0) (by kernel_rfl) rfl rfl ⟨((HB.out.cell (World.block_lt_of_cell? w _ hw325_0)).trans hw325_0), ((HB.out.cell (World.block_lt_of_cell? w _ hw326_0)).trans hw326_0), ((HB.out.cell (World.block_lt_of_cell? w _ hw327_0)).trans hw327_0), ((HB.out.cell (World.block_lt_of_cell? w _ hw328_0)).trans hw328_0)⟩ (fun hHeld => ?_); refine with_tabW aircheckref02_block.tab5 aircheckref02_block.bits5 (fun HT_ HW_ => ?_)
             generalize wr.drew = w17 at HO_5 HB hx325_0 hx326_0 hx327_0 hx328_0 hHeld ⊢
             refine pj_ (v := ?_) (a' := ?_) 0 (some 23) (bb 37 1) rfl rfl HT_ (by kernel_rfl) (fun _ _ _ h => h) (by rfl) ?_ ?_ ?_
             rotate_left; (intro w'; go_simp; with_reducible rfl); rotate_left; (simp only [Act.put, z1, z2, z3, i64_w, i32_w]; rfl)
             refine pj_ (v := ?_) (a' := ?_) 1 (some 24) (bb 37 3) rfl rfl HT_ (by kernel_rfl) (fun _ _ _ h => h) (by rfl) ?_ ?_ ?_
             rotate_left; (intro w'; go_simp; with_reducible rfl); rotate_left; (simp only [Act.put, z1, z2, z3, i64_w, i32_w]; rfl)
             refine pj_ (v := ?_) (a' := ?_) 2 (some 25) (bb 37 7) rfl rfl HT_ (by kernel_rfl) (fun _ _ _ h => h) (by rfl) ?_ ?_ ?_
             rotate_left; (intro w'; go_simp; with_reducible rfl); rotate_left; (simp only [Act.put, z1, z2, z3, i64_w, i32_w]; rfl)
             refine pj_ (v := ?_) (a' := ?_) 3 (some 26) (bb 37 15) rfl rfl HT_ (by kernel_rfl) (fun _ _ _ h => h) (by rfl) ?_ ?_ ?_
             rotate_left; (intro w'; go_simp; with_reducible rfl); rotate_left; (simp only [Act.put, z1, z2, z3, i64_w, i32_w]; rfl)
             refine pj_ (v := ?_) (a' := ?_) 4 (some 27) (bb 37 31) rfl rfl HT_ (by kernel_rfl) (fun _ _ _ h => h) (by rfl) ?_ ?_ ?_
             rotate_left; (intro w'; go_simp; with_reducible rfl); rotate_left; (simp only [Act.put, z1, z2, z3, i64_w, i32_w]; rfl)
             refine pj_ (v := ?_) (a' := ?_) 8 (some 31) (bb 37 287) rfl rfl HT_ (by kernel_rfl) (fun _ _ _ h => h) (by rfl) ?_ ?_ ?_
             rotate_left; (intro w'; go_simp; with_reducible rfl); rotate_left; (simp only [Act.put, z1, z2, z3, i64_w, i32_w]; rfl)
             refine pj_ (v := ?_) (a' := ?_) 9 (some 32) (bb 37 799) rfl rfl HT_ (by kernel_rfl) (fun _ _ _ h => h) (by rfl) ?_ ?_ ?_
             rotate_left; (intro w'; go_simp; with_reducible rfl); rotate_left; (simp only [Act.put, z1, z2, z3, i64_w, i32_w]; rfl)
             refine pj_ (v := ?_) (a' := ?_) 10 (some 33) (bb 37 1823) rfl rfl HT_ (by kernel_rfl) (fun _ _ _ h => h) (by rfl) ?_ ?_ ?_
             rotate_left; (intro w'; go_simp; with_reducible rfl); rotate_left; (simp only [Act.put, z1, z2, z3, i64_w, i32_w]; rfl)
             refine pj_ (v := ?_) (a' := ?_) 11 (some 34) (bb 37 3871) rfl rfl HT_ (by kernel_rfl) (fun _ _ _ h => h) (by rfl) ?_ ?_ ?_
             rotate_left; (intro w'; go_simp; with_reducible rfl); rotate_left; (simp only [Act.put, z1, z2, z3, i64_w, i32_w]; rfl)
             refine pj_ (v := ?_) (a' := ?_) 12 (some 35) (bb 37 7967) rfl rfl HT_ (by kernel_rfl) (fun _ _ _ h => h) (by rfl) ?_ ?_ ?_
             rotate_left; (intro w'; go_simp; with_reducible rfl); rotate_left; (simp only [Act.put, z1, z2, z3, i64_w, i32_w]; rfl)
             refine pj_ (v := ?_) (a' := ?_) 17 (some 40) (bb 37 139039) rfl rfl HT_ (by kernel_rfl) (fun _ _ _ h => h) (by rfl) ?_ ?_ ?_
             rotate_left; (intro w'; go_simp; with_reducible rfl); rotate_left; (simp only [Act.put, z1, z2, z3, i64_w, i32_w]; rfl)
             refine pj_ (v := ?_) (a' := ?_) 18 (some 41) (bb 37 401183) rfl rfl HT_ (by kernel_rfl) (fun _ _ _ h => h) (by rfl) ?_ ?_ ?_
             rotate_left; (intro w'; go_simp; with_reducible rfl); rotate_left; (simp only [Act.put, z1, z2, z3, i64_w, i32_w]; rfl)
             refine pj_ (v := ?_) (a' := ?_) 19 (some 42) (bb 37 925471) rfl rfl HT_ (by kernel_rfl) (fun _ _ _ h => h) (by rfl) ?_ ?_ ?_
             rotate_left; (intro w'; go_simp; with_reducible rfl); rotate_left; (simp only [Act.put, z1, z2, z3, i64_w, i32_w]; rfl)
             refine pj_ (v := ?_) (a' := ?_) 20 (some 43) (bb 37 1974047) rfl rfl HT_ (by kernel_rfl) (fun _ _ _ h => h) (by rfl) ?_ ?_ ?_
             rotate_left; (intro w'; go_simp; with_reducible rfl); rotate_left; (simp only [Act.put, z1, z2, z3, i64_w, i32_w]; rfl)
             refine pj_ (v := ?_) (a' := ?_) 21 (some 44) (bb 37 4071199) rfl rfl HT_ (by kernel_rfl) (fun _ _ _ h => h) (by rfl) ?_ ?_ ?_
             rotate_left; (intro w'; go_simp; with_reducible rfl); rotate_left; (simp only [Act.put, z1, z2, z3, i64_w, i32_w]; rfl)
             refine pj_ (v := ?_) (a' := ?_) 26 (some 49) (bb 37 71180063) rfl rfl HT_ (by kernel_rfl) (fun _ _ _ h => h) (by rfl) ?_ ?_ ?_
             rotate_left; (intro w'; go_simp; with_reducible rfl); rotate_left; (simp only [Act.put, z1, z2, z3, i64_w, i32_w]; rfl)
             refine pj_ (v := ?_) (a' := ?_) 27 (some 50) (bb 37 205397791) rfl rfl HT_ (by kernel_rfl) (fun _ _ _ h => h) (by rfl) ?_ ?_ ?_
             rotate_left; (intro w'; go_simp; with_reducible rfl); rotate_left; (simp only [Act.put, z1, z2, z3, i64_w, i32_w]; rfl)
             refine pj_ (v := ?_) (a' := ?_) 28 (some 51) (bb 37 473833247) rfl rfl HT_ (by kernel_rfl) (fun _ _ _ h => h) (by rfl) ?_ ?_ ?_
             rotate_left; (intro w'; go_simp; with_reducible rfl); rotate_left; (simp only [Act.put, z1, z2, z3, i64_w, i32_w]; rfl)
             refine pj_ (v := ?_) (a' := ?_) 29 (some 52) (bb 37 1010704159) rfl rfl HT_ (by kernel_rfl) (fun _ _ _ h => h) (by rfl) ?_ ?_ ?_
             rotate_left; (intro w'; go_simp; with_reducible rfl); rotate_left; (simp only [Act.put, z1, z2, z3, i64_w, i32_w]; rfl)
             refine pj_ (v := ?_) (a' := ?_) 30 (some 53) (bb 37 2084445983) rfl rfl HT_ (by kernel_rfl) (fun _ _ _ h => h) (by rfl) ?_ ?_ ?_
             rotate_left; (intro w'; go_simp; with_reducible rfl); rotate_left; (simp only [Act.put, z1, z2, z3, i64_w, i32_w]; rfl)
             refine tj_ (v := ?_) (a' := ?_) 5 (some 28) (bb 37 2084446015) rfl rfl HT_ HW_ (by kernel_rfl) (fun _ _ _ h => h) (by rfl) hHeld ?_ ?_ ?_
             rotate_left; (rintro w' ⟨s0, s1, s2, s3⟩; go_simp; with_reducible rfl); rotate_left; (simp only [Act.put, z1, z2, z3, i64_w, i32_w]; rfl)
             refine pj_ (v := ?_) (a' := ?_) 6 (some 29) (bb 37 2084446079) rfl rfl HT_ (by kernel_rfl) (fun _ _ _ h => h) (by rfl) ?_ ?_ ?_
             rotate_left; (intro w'; go_simp; with_reducible rfl); rotate_left; (simp only [Act.put, z1, z2, z3, i64_w, i32_w]; rfl)
             refine pj_ (v := ?_) (a' := ?_) 7 (some 30) (bb 37 2084446207) rfl rfl HT_ (by kernel_rfl) (fun _ _ _ h => h) (by rfl) ?_ ?_ ?_
             rotate_left; (intro w'; go_simp; with_reducible rfl); rotate_left; (simp only [Act.put, z1, z2, z3, i64_w, i32_w]; rfl)
             refine tj_ (v := ?_) (a' := ?_) 13 (some 36) (bb 37 2084454399) rfl rfl HT_ HW_ (by kernel_rfl) (fun _ _ _ h => h) (by rfl) hHeld ?_ ?_ ?_
             rotate_left; (rintro w' ⟨s0, s1, s2, s3⟩; go_simp; with_reducible rfl); rotate_left; (simp only [Act.put, z1, z2, z3, i64_w, i32_w]; rfl)
             refine pj_ (v := ?_) (a' := ?_) 14 (some 37) (bb 37 2084470783) rfl rfl HT_ (by kernel_rfl) (fun _ _ _ h => h) (by rfl) ?_ ?_ ?_
             rotate_left; (intro w'; go_simp; with_reducible rfl); rotate_left; (simp only [Act.put, z1, z2, z3, i64_w, i32_w]; rfl)
             refine pj_ (v := ?_) (a' := ?_) 15 (some 38) (bb 37 2084503551) rfl rfl HT_ (by kernel_rfl) (fun _ _ _ h => h) (by rfl) ?_ ?_ ?_
             rotate_left; (intro w'; go_simp; with_reducible rfl); rotate_left; (simp only [Act.put, z1, z2, z3, i64_w, i32_w]; rfl)
             refine pj_ (v := ?_) (a' := ?_) 16 (some 39) (bb 37 2084569087) rfl rfl HT_ (by kernel_rfl) (fun _ _ _ h => h) (by rfl) ?_ ?_ ?_
             rotate_left; (intro w'; go_simp; with_reducible rfl); rotate_left; (simp only [Act.put, z1, z2, z3, i64_w, i32_w]; rfl)
             refine tj_ (v := ?_) (a' := ?_) 22 (some 45) (bb 37 2088763391) rfl rfl HT_ HW_ (by kernel_rfl) (fun _ _ _ h => h) (by rfl) hHeld ?_ ?_ ?_
             rotate_left; (rintro w' ⟨s0, s1, s2, s3⟩; go_simp; with_reducible rfl); rotate_left; (simp only [Act.put, z1, z2, z3, i64_w, i32_w]; rfl)
             refine pj_ (v := ?_) (a' := ?_) 23 (some 46) (bb 37 2097151999) rfl rfl HT_ (by kernel_rfl) (fun _ _ _ h => h) (by rfl) ?_ ?_ ?_
             rotate_left; (intro w'; go_simp; with_reducible rfl); rotate_left; (simp only [Act.put, z1, z2, z3, i64_w, i32_w]; rfl)
             refine pj_ (v := ?_) (a' := ?_) 24 (some 47) (bb 37 2113929215) rfl rfl HT_ (by kernel_rfl) (fun _ _ _ h => h) (by rfl) ?_ ?_ ?_
             rotate_left; (intro w'; go_simp; with_reducible rfl); rotate_left; (simp only [Act.put, z1, z2, z3, i64_w, i32_w]; rfl)
             refine pj_ (v := ?_) (a' := ?_) 25 (some 48) (bb 37 2147483647) rfl rfl HT_ (by kernel_rfl) (fun _ _ _ h => h) (by rfl) ?_ ?_ ?_
             rotate_left; (intro w'; go_simp; with_reducible rfl); rotate_left; (simp only [Act.put, z1, z2, z3, i64_w, i32_w]; rfl)
             refine tj_ (v := ?_) (a' := ?_) 31 (some 54) (bb 37 4294967295) rfl rfl HT_ HW_ (by kernel_rfl) (fun _ _ _ h => h) (by rfl) hHeld ?_ ?_ ?_
             rotate_left; (rintro w' ⟨s0, s1, s2, s3⟩; go_simp; with_reducible rfl); rotate_left; (simp only [Act.put, z1, z2, z3, i64_w, i32_w]; rfl)
             refine pj_ (v := ?_) (a' := ?_) 32 (some 55) (bb 37 8589934591) rfl rfl HT_ (by kernel_rfl) (fun _ _ _ h => h) (by rfl) ?_ ?_ ?_
             rotate_left; (intro w'; go_simp; with_reducible rfl); rotate_left; (simp only [Act.put, z1, z2, z3, i64_w, i32_w]; rfl)
             refine pj_ (v := ?_) (a' := ?_) 33 (some 56) (bb 37 17179869183) rfl rfl HT_ (by kernel_rfl) (fun _ _ _ h => h) (by rfl) ?_ ?_ ?_
             rotate_left; (intro w'; go_simp; with_reducible rfl); rotate_left; (simp only [Act.put, z1, z2, z3, i64_w, i32_w]; rfl)
             refine one_ (i := 34) (N := some 57) (bb 37 34359738367) rfl rfl (one_of HT_.out (by kernel_rfl)) (by decide) (fun K hK => ?_)
             refine value_ (w1 := ?_) (v := ?_) (by rfl) rfl ?_ ?_
             rotate_left 2
             ·go_simp
              constructor
              ·rfl
              ·rfl
             refine hK.out _ _ ⟨(World.cell?_alloc_lt _ _ _ (World.block_lt_of_cell? _ _ (((HB.out.cell (World.block_lt_of_cell? w _ hw325_0)).trans hw325_0)))).trans (((HB.out.cell (World.block_lt_of_cell? w _ hw325_0)).trans hw325_0)), (World.cell?_alloc_lt _ _ _ (World.block_lt_of_cell? _ _ (((HB.out.cell (World.block_lt_of_cell? w _ hw326_0)).trans hw326_0)))).trans (((HB.out.cell (World.block_lt_of_cell? w _ hw326_0)).trans hw326_0)), (World.cell?_alloc_lt _ _ _ (World.block_lt_of_cell? _ _ (((HB.out.cell (World.block_lt_of_cell? w _ hw327_0)).trans hw327_0)))).trans (((HB.out.cell (World.block_lt_of_cell? w _ hw327_0)).trans hw327_0)), (World.cell?_alloc_lt _ _ _ (World.block_lt_of_cell? _ _ (((HB.out.cell (World.block_lt_of_cell? w _ hw328_0)).trans hw328_0)))).trans (((HB.out.cell (World.block_lt_of_cell? w _ hw328_0)).trans hw328_0))⟩ (fun hHeld => ?_)
             clear hK K
             refine norm_ (a' := ?_) ?_ ?_
             rotate_left
             ·show Act.put _ (some 57) _ = _
              simp only [Act.put, z1, z2, z3, i64_w, i32_w]
              rfl
             refine one_ (i := 35) (N := some 58) (bb 37 68719476735) rfl rfl (one_of HT_.out (by kernel_rfl)) (by decide) (fun K hK => ?_)
             refine Kd.R_append_step (Kd.int .u32) (w0 := w) w.heap.size (by rfl) (.tmp 23) (.tmp 57) 78 77 (.int .u32 0) 4 rfl Tryd.underlying78 info77 rfl (by decide) (by omega) u5 x5_1 (Go.bits .or .u32 (Go.bits .or .u32 (Go.bits .or .u32 ((((rd l1 (ji4)) % 4294967296) * 16777216) % 4294967296) ((((rd l1 (ji7)) % 4294967296) * 65536) % 4294967296)) ((((rd l1 (ji10)) % 4294967296) * 256) % 4294967296)) ((rd l1 (ji13)) % 4294967296)) [.int .u32 (Go.bits .or .u32 (Go.bits .or .u32 (Go.bits .or .u32 ((((rd l1 (ji4)) % 4294967296) * 16777216) % 4294967296) ((((rd l1 (ji7)) % 4294967296) * 65536) % 4294967296)) ((((rd l1 (ji10)) % 4294967296) * 256) % 4294967296)) ((rd l1 (ji13)) % 4294967296))] (fun _ => True) (fun _ => False) rfl rfl ?aP (fun _ hk => hk.elim) ?aF ?aO ?aB ?aS ?aL ?_
             (case aP => exact rfl)
             (case aB => exact (by repeat (first | (with_reducible first | exact HB.out | apply below_alloc | apply pw_below_drewN | apply below_drew1) | exact HB.out)))
             (case aF => exact (fun _ _ => trivial))
             (case aO => exact (by (with_reducible repeat (first | apply Kd.R_alloc | apply Kd.R_drewN | apply Kd.R_drew)); exact HO_5.out))
             (case aS => exact (below_size (by repeat (first | (with_reducible first | exact HB.out | apply below_alloc | apply pw_below_drewN | apply below_drew1) | exact HB.out))))
             (case aL => have := LMc16.out; omega)
             intro v330 w18 ho hb hg hat
             rw [← Ny329.out] at ho
             have n0_ := Aside0.mk (hb)
             have n1_ := Aside0.mk (ho)
             clear HB
             clear HO_5
             have HB := n0_
             have HO331 := n1_
             clear n0_ n1_
             clear ho hb hg hat
             refine hK.out _ _ ⟨((HB.out.cell (World.block_lt_of_cell? w _ hw325_0)).trans hw325_0), ((HB.out.cell (World.block_lt_of_cell? w _ hw326_0)).trans hw326_0), ((HB.out.cell (World.block_lt_of_cell? w _ hw327_0)).trans hw327_0), ((HB.out.cell (World.block_lt_of_cell? w _ hw328_0)).trans hw328_0)⟩ (fun hHeld => ?_)
             clear hK K
             refine norm_ (a' := ?_) ?_ ?_
             rotate_left
             ·show Act.put _ (some 58) _ = _
              simp only [Act.put, z1, z2, z3, i64_w, i32_w]
              rfl
             refine pj_ (v := ?_) (a' := ?_) 36 (some 5) (bb 37 137438953471) rfl rfl HT_ (by kernel_rfl) (fun _ _ _ h => h) (by rfl) ?_ ?_ ?_
             rotate_left; (intro w'; go_simp; with_reducible rfl); rotate_left; (simp only [Act.put, z1, z2, z3, i64_w, i32_w]; rfl)
             refine done_ (done_of HT_.out (by kernel_rfl)) ?_
             try go_wp2
             go_roundg k1
             case measure => have := HK1.out; omega
             case rel => exact ⟨(y329), (wrap64 (x6_1 + 1)), (by first | rfl | (simp; done) | (simp [*]; done)), H', ⟨by have := HK1.out; omega⟩, ⟨by (with_reducible repeat (first | apply Kd.R_alloc | apply Kd.R_drewN | apply Kd.R_drew)); exact HO331.out⟩, ⟨by repeat (first | (with_reducible first | exact HB.out | apply below_alloc | apply pw_below_drewN | apply below_drew1) | exact HB.out)⟩⟩
            ·rw [if_neg c16] at H
             exact absurd H (by simp)
           ·rw [if_neg c15] at H
            exact absurd H (by simp)
          ·rw [if_neg c14] at H
           exact absurd H (by simp)
         ·rw [if_neg c12] at H
          exact absurd H (by simp)
        ·rw [if_neg c11] at H
         exact absurd H (by simp)
       ·rw [if_neg c9] at H
        exact absurd H (by simp)
      ·rw [if_neg c8] at H
       exact absurd H (by simp)
     ·rw [if_neg c6] at H
      exact absurd H (by simp)
    ·rw [if_neg c5] at H
     exact absurd H (by simp)
   ·rw [if_neg c3] at H
    have c3b0 : decide (x6_1 < 16) = false := decide_eq_false c3
    clear c3
    have H' := Aside0.mk H
    clear H
    go_wp2
    go_loopg [5, 7] k1 (fun kq v5 v7 w' => ∃ (x5_2 : List Int) (x7_2 : Int), v7 = .int .i64 x7_2 ∧ Aside0 (aircheckref02_block.l1 kq l0 x5_2 x7_2 = some r) ∧ Aside0 (kq ≤ k1) ∧ Aside0 (Kd.R (Kd.int .u32) 77 w' w.heap.size (fun _ => True) v5 x5_2) ∧ Aside0 (Below w.heap.size w w'))
    case atStart => exact ⟨(x5_1), (16), (by first | rfl | (simp; done) | (simp [*]; done)), H', ⟨Nat.le_refl _⟩, ⟨by (with_reducible repeat (first | apply Kd.R_alloc | apply Kd.R_drewN | apply Kd.R_drew)); exact HO_5.out⟩, ⟨by repeat (first | (with_reducible first | exact HB.out | apply below_alloc | apply pw_below_drewN | apply below_drew1) | exact HB.out)⟩⟩
    case round =>
     clear H'
     try clear c1
     try clear p2
     try clear c3
     try clear c3b0
     try clear p3
     try clear q3
     try clear hx3
     try clear c5
     try clear c5b0
     try clear c6
     try clear c6b0
     try clear p6
     try clear c8
     try clear c8b0
     try clear c9
     try clear c9b0
     try clear c11
     try clear c11b0
     try clear c12
     try clear c12b0
     try clear c14
     try clear c14b0
     try clear c15
     try clear c15b0
     try clear c16
     try clear hx325_0
     try clear hx326_0
     try clear hx327_0
     try clear hx328_0
     try clear p2
     try clear p325
     try clear p326
     try clear p327
     try clear p328
     try clear q325
     try clear q326
     try clear q327
     try clear q328
     obtain ⟨x5_2, x7_2, rfl, HA, HK2, HO_5, HB⟩ := hrel
     cases gk with
     | zero => exact absurd HA.out (by simp [aircheckref02_block.l1])
     | succ k2 =>
      have H := HA.out
      clear HA
      simp only [aircheckref02_block.l1] at H
      by_cases c19 : x7_2 < 64
      ·rw [if_pos c19] at H
       have c19b0 : decide (x7_2 < 64) = true := decide_eq_true c19
       clear c19
       obtain ⟨ji20, hji20⟩ : ∃ j_ : Int, (wrap64 (x7_2 - 15)) = j_ := ⟨_, rfl⟩
       replace H : (if 0 ≤ (ji20) then (if (ji20) < (x5_2.length : Int) then ((aircheckref02_rotated.f (rd x5_2 (ji20)) 7).bind fun t333 => ((aircheckref02_rotated.f (rd x5_2 (ji20)) 18).bind fun t335 => (if 0 ≤ (wrap64 (x7_2 - 2)) then (if (wrap64 (x7_2 - 2)) < (x5_2.length : Int) then ((aircheckref02_rotated.f (rd x5_2 (wrap64 (x7_2 - 2))) 17).bind fun t338 => ((aircheckref02_rotated.f (rd x5_2 (wrap64 (x7_2 - 2))) 19).bind fun t340 => (if 0 ≤ (wrap64 (x7_2 - 16)) then (if (wrap64 (x7_2 - 16)) < (x5_2.length : Int) then (if 0 ≤ (wrap64 (x7_2 - 7)) then (if (wrap64 (x7_2 - 7)) < (x5_2.length : Int) then (if x5_2.length < 35184372088832 then (aircheckref02_block.l1 k2 l0 (x5_2 ++ [((((((rd x5_2 (wrap64 (x7_2 - 16))) + (Go.bits .xor .u32 (Go.bits .xor .u32 t333 t335) ((rd x5_2 (ji20)) / 8))) % 4294967296) + (rd x5_2 (wrap64 (x7_2 - 7)))) % 4294967296) + (Go.bits .xor .u32 (Go.bits .xor .u32 t338 t340) ((rd x5_2 (wrap64 (x7_2 - 2))) / 1024))) % 4294967296]) (wrap64 (x7_2 + 1))) else (none)) else (none)) else (none)) else (none)) else (none)))) else (none)) else (none)))) else (none)) else (none)) = some r := by first | (rw [hji20] at H; exact H) | (simp only [hji20] at H ⊢; exact H)
       have hji20w : (IntKind.i64.wrap (x7_2 - 15)) = ji20 := (i64_w _).trans hji20
       by_cases c21 : 0 ≤ (ji20)
       ·rw [if_pos c21] at H
        have c21b0 : decide (0 ≤ (ji20)) = true := decide_eq_true c21
        clear c21
        by_cases c22 : (ji20) < (x5_2.length : Int)
        ·rw [if_pos c22] at H
         have c22b0 : decide ((ji20) < (x5_2.length : Int)) = true := decide_eq_true c22
         clear c22
         replace H := Option.bind_eq_some_iff.mp H
         obtain ⟨t333, A230, H⟩ := H
         replace H : ((aircheckref02_rotated.f (rd x5_2 (ji20)) 18).bind fun t335 => (if 0 ≤ (wrap64 (x7_2 - 2)) then (if (wrap64 (x7_2 - 2)) < (x5_2.length : Int) then ((aircheckref02_rotated.f (rd x5_2 (wrap64 (x7_2 - 2))) 17).bind fun t338 => ((aircheckref02_rotated.f (rd x5_2 (wrap64 (x7_2 - 2))) 19).bind fun t340 => (if 0 ≤ (wrap64 (x7_2 - 16)) then (if (wrap64 (x7_2 - 16)) < (x5_2.length : Int) then (if 0 ≤ (wrap64 (x7_2 - 7)) then (if (wrap64 (x7_2 - 7)) < (x5_2.length : Int) then (if x5_2.length < 35184372088832 then (aircheckref02_block.l1 k2 l0 (x5_2 ++ [((((((rd x5_2 (wrap64 (x7_2 - 16))) + (Go.bits .xor .u32 (Go.bits .xor .u32 t333 t335) ((rd x5_2 (ji20)) / 8))) % 4294967296) + (rd x5_2 (wrap64 (x7_2 - 7)))) % 4294967296) + (Go.bits .xor .u32 (Go.bits .xor .u32 t338 t340) ((rd x5_2 (wrap64 (x7_2 - 2))) / 1024))) % 4294967296]) (wrap64 (x7_2 + 1))) else (none)) else (none)) else (none)) else (none)) else (none)))) else (none)) else (none))) = some r := H
         have A23 := Aside0.mk A230
         clear A230
         replace H := Option.bind_eq_some_iff.mp H
         obtain ⟨t335, A240, H⟩ := H
         replace H : (if 0 ≤ (wrap64 (x7_2 - 2)) then (if (wrap64 (x7_2 - 2)) < (x5_2.length : Int) then ((aircheckref02_rotated.f (rd x5_2 (wrap64 (x7_2 - 2))) 17).bind fun t338 => ((aircheckref02_rotated.f (rd x5_2 (wrap64 (x7_2 - 2))) 19).bind fun t340 => (if 0 ≤ (wrap64 (x7_2 - 16)) then (if (wrap64 (x7_2 - 16)) < (x5_2.length : Int) then (if 0 ≤ (wrap64 (x7_2 - 7)) then (if (wrap64 (x7_2 - 7)) < (x5_2.length : Int) then (if x5_2.length < 35184372088832 then (aircheckref02_block.l1 k2 l0 (x5_2 ++ [((((((rd x5_2 (wrap64 (x7_2 - 16))) + (Go.bits .xor .u32 (Go.bits .xor .u32 t333 t335) ((rd x5_2 (ji20)) / 8))) % 4294967296) + (rd x5_2 (wrap64 (x7_2 - 7)))) % 4294967296) + (Go.bits .xor .u32 (Go.bits .xor .u32 t338 t340) ((rd x5_2 (wrap64 (x7_2 - 2))) / 1024))) % 4294967296]) (wrap64 (x7_2 + 1))) else (none)) else (none)) else (none)) else (none)) else (none)))) else (none)) else (none)) = some r := H
         have A24 := Aside0.mk A240
         clear A240
         obtain ⟨ji25, hji25⟩ : ∃ j_ : Int, (wrap64 (x7_2 - 2)) = j_ := ⟨_, rfl⟩
         replace H : (if 0 ≤ (ji25) then (if (ji25) < (x5_2.length : Int) then ((aircheckref02_rotated.f (rd x5_2 (ji25)) 17).bind fun t338 => ((aircheckref02_rotated.f (rd x5_2 (ji25)) 19).bind fun t340 => (if 0 ≤ (wrap64 (x7_2 - 16)) then (if (wrap64 (x7_2 - 16)) < (x5_2.length : Int) then (if 0 ≤ (wrap64 (x7_2 - 7)) then (if (wrap64 (x7_2 - 7)) < (x5_2.length : Int) then (if x5_2.length < 35184372088832 then (aircheckref02_block.l1 k2 l0 (x5_2 ++ [((((((rd x5_2 (wrap64 (x7_2 - 16))) + (Go.bits .xor .u32 (Go.bits .xor .u32 t333 t335) ((rd x5_2 (ji20)) / 8))) % 4294967296) + (rd x5_2 (wrap64 (x7_2 - 7)))) % 4294967296) + (Go.bits .xor .u32 (Go.bits .xor .u32 t338 t340) ((rd x5_2 (ji25)) / 1024))) % 4294967296]) (wrap64 (x7_2 + 1))) else (none)) else (none)) else (none)) else (none)) else (none)))) else (none)) else (none)) = some r := by first | (rw [hji25] at H; exact H) | (simp only [hji25] at H ⊢; exact H)
         (try rw [hji25] at A23)
         (try rw [hji25] at A24)
         have hji25w : (IntKind.i64.wrap (x7_2 - 2)) = ji25 := (i64_w _).trans hji25
         by_cases c26 : 0 ≤ (ji25)
         ·rw [if_pos c26] at H
          have c26b0 : decide (0 ≤ (ji25)) = true := decide_eq_true c26
          clear c26
          by_cases c27 : (ji25) < (x5_2.length : Int)
          ·rw [if_pos c27] at H
           have c27b0 : decide ((ji25) < (x5_2.length : Int)) = true := decide_eq_true c27
           clear c27
           replace H := Option.bind_eq_some_iff.mp H
           obtain ⟨t338, A280, H⟩ := H
           replace H : ((aircheckref02_rotated.f (rd x5_2 (ji25)) 19).bind fun t340 => (if 0 ≤ (wrap64 (x7_2 - 16)) then (if (wrap64 (x7_2 - 16)) < (x5_2.length : Int) then (if 0 ≤ (wrap64 (x7_2 - 7)) then (if (wrap64 (x7_2 - 7)) < (x5_2.length : Int) then (if x5_2.length < 35184372088832 then (aircheckref02_block.l1 k2 l0 (x5_2 ++ [((((((rd x5_2 (wrap64 (x7_2 - 16))) + (Go.bits .xor .u32 (Go.bits .xor .u32 t333 t335) ((rd x5_2 (ji20)) / 8))) % 4294967296) + (rd x5_2 (wrap64 (x7_2 - 7)))) % 4294967296) + (Go.bits .xor .u32 (Go.bits .xor .u32 t338 t340) ((rd x5_2 (ji25)) / 1024))) % 4294967296]) (wrap64 (x7_2 + 1))) else (none)) else (none)) else (none)) else (none)) else (none))) = some r := H
           have A28 := Aside0.mk A280
           clear A280
           replace H := Option.bind_eq_some_iff.mp H
           obtain ⟨t340, A290, H⟩ := H
           replace H : (if 0 ≤ (wrap64 (x7_2 - 16)) then (if (wrap64 (x7_2 - 16)) < (x5_2.length : Int) then (if 0 ≤ (wrap64 (x7_2 - 7)) then (if (wrap64 (x7_2 - 7)) < (x5_2.length : Int) then (if x5_2.length < 35184372088832 then (aircheckref02_block.l1 k2 l0 (x5_2 ++ [((((((rd x5_2 (wrap64 (x7_2 - 16))) + (Go.bits .xor .u32 (Go.bits .xor .u32 t333 t335) ((rd x5_2 (ji20)) / 8))) % 4294967296) + (rd x5_2 (wrap64 (x7_2 - 7)))) % 4294967296) + (Go.bits .xor .u32 (Go.bits .xor .u32 t338 t340) ((rd x5_2 (ji25)) / 1024))) % 4294967296]) (wrap64 (x7_2 + 1))) else (none)) else (none)) else (none)) else (none)) else (none)) = some r := H
           have A29 := Aside0.mk A290
           clear A290
           obtain ⟨ji30, hji30⟩ : ∃ j_ : Int, (wrap64 (x7_2 - 16)) = j_ := ⟨_, rfl⟩
           replace H : (if 0 ≤ (ji30) then (if (ji30) < (x5_2.length : Int) then (if 0 ≤ (wrap64 (x7_2 - 7)) then (if (wrap64 (x7_2 - 7)) < (x5_2.length : Int) then (if x5_2.length < 35184372088832 then (aircheckref02_block.l1 k2 l0 (x5_2 ++ [((((((rd x5_2 (ji30)) + (Go.bits .xor .u32 (Go.bits .xor .u32 t333 t335) ((rd x5_2 (ji20)) / 8))) % 4294967296) + (rd x5_2 (wrap64 (x7_2 - 7)))) % 4294967296) + (Go.bits .xor .u32 (Go.bits .xor .u32 t338 t340) ((rd x5_2 (ji25)) / 1024))) % 4294967296]) (wrap64 (x7_2 + 1))) else (none)) else (none)) else (none)) else (none)) else (none)) = some r := by first | (rw [hji30] at H; exact H) | (simp only [hji30] at H ⊢; exact H)
           (try rw [hji30] at A23)
           (try rw [hji30] at A24)
           (try rw [hji30] at A28)
           (try rw [hji30] at A29)
           have hji30w : (IntKind.i64.wrap (x7_2 - 16)) = ji30 := (i64_w _).trans hji30
           by_cases c31 : 0 ≤ (ji30)
           ·rw [if_pos c31] at H
            have c31b0 : decide (0 ≤ (ji30)) = true := decide_eq_true c31
            clear c31
            by_cases c32 : (ji30) < (x5_2.length : Int)
            ·rw [if_pos c32] at H
             have c32b0 : decide ((ji30) < (x5_2.length : Int)) = true := decide_eq_true c32
             clear c32
             obtain ⟨ji33, hji33⟩ : ∃ j_ : Int, (wrap64 (x7_2 - 7)) = j_ := ⟨_, rfl⟩
             replace H : (if 0 ≤ (ji33) then (if (ji33) < (x5_2.length : Int) then (if x5_2.length < 35184372088832 then (aircheckref02_block.l1 k2 l0 (x5_2 ++ [((((((rd x5_2 (ji30)) + (Go.bits .xor .u32 (Go.bits .xor .u32 t333 t335) ((rd x5_2 (ji20)) / 8))) % 4294967296) + (rd x5_2 (ji33))) % 4294967296) + (Go.bits .xor .u32 (Go.bits .xor .u32 t338 t340) ((rd x5_2 (ji25)) / 1024))) % 4294967296]) (wrap64 (x7_2 + 1))) else (none)) else (none)) else (none)) = some r := by first | (rw [hji33] at H; exact H) | (simp only [hji33] at H ⊢; exact H)
             (try rw [hji33] at A23)
             (try rw [hji33] at A24)
             (try rw [hji33] at A28)
             (try rw [hji33] at A29)
             have hji33w : (IntKind.i64.wrap (x7_2 - 7)) = ji33 := (i64_w _).trans hji33
             by_cases c34 : 0 ≤ (ji33)
             ·rw [if_pos c34] at H
              have c34b0 : decide (0 ≤ (ji33)) = true := decide_eq_true c34
              clear c34
              by_cases c35 : (ji33) < (x5_2.length : Int)
              ·rw [if_pos c35] at H
               have c35b0 : decide ((ji33) < (x5_2.length : Int)) = true := decide_eq_true c35
               clear c35
               by_cases c36 : x5_2.length < 35184372088832
               ·rw [if_pos c36] at H
                have LMc36 := Aside0.mk c36
                clear c36
                obtain ⟨y344, hy344⟩ : ∃ y_ : List Int, y_ = (x5_2 ++ [((((((rd x5_2 (ji30)) + (Go.bits .xor .u32 (Go.bits .xor .u32 t333 t335) ((rd x5_2 (ji20)) / 8))) % 4294967296) + (rd x5_2 (ji33))) % 4294967296) + (Go.bits .xor .u32 (Go.bits .xor .u32 t338 t340) ((rd x5_2 (ji25)) / 1024))) % 4294967296]) := ⟨_, rfl⟩
                replace H : (aircheckref02_block.l1 k2 l0 y344 (wrap64 (x7_2 + 1))) = some r := by first | (rw [hy344]; with_reducible exact H) | (have H2_ := (Option.bind_some _ _).symm.trans H; rw [hy344]; with_reducible exact H2_) | (have H2_ := (Option.bind_some _ _).symm.trans H; with_reducible exact H2_) | with_reducible exact H | (rw [hy344]; exact H) | exact H
                have Ny344 := Aside0.mk hy344
                clear hy344
                have H' := Aside0.mk H
                clear H
                try go_wp2
                have n0_ := Aside0.mk (Kd.R_drew HO_5.out)
                have n1_ := Aside0.mk (below_drew1 HB.out)
                clear HO_5
                clear HB
                have HO_5 := n0_
                have HB := n1_
                clear n0_ n1_
                obtain ⟨Ao38, co38, eo38⟩ := Kd.R_slice HO_5.out
                (first | subst eo38 | (injection eo38 with f1_ f2_ f3_; have f4_ := f1_.symm; have f5_ := f3_.symm; clear f1_ f2_ f3_; subst f4_; subst f5_))
                have p332 : 0 ≤ ((ji20) : Int) := of_decide_eq_true (by first | (with_reducible assumption) | assumption)
                have q332 : (ji20) < (x5_2.length : Int) := of_decide_eq_true (by first | (with_reducible assumption) | assumption)
                obtain ⟨ad332, e332, hx332_0⟩ := Kd.at_int (Kd.R_reads' HO_5.out).2.2 (ji20) p332 q332
                cases e332
                replace p332 := eq_true p332
                replace q332 := eq_true q332
                have p334 : 0 ≤ ((ji20) : Int) := of_decide_eq_true (by first | (with_reducible assumption) | assumption)
                have q334 : (ji20) < (x5_2.length : Int) := of_decide_eq_true (by first | (with_reducible assumption) | assumption)
                obtain ⟨ad334, e334, hx334_0⟩ := Kd.at_int (Kd.R_reads' HO_5.out).2.2 (ji20) p334 q334
                obtain rfl : ad332 = ad334 := (by injection e334)
                replace p334 := eq_true p334
                replace q334 := eq_true q334
                have p336 : 0 ≤ ((ji20) : Int) := of_decide_eq_true (by first | (with_reducible assumption) | assumption)
                have q336 : (ji20) < (x5_2.length : Int) := of_decide_eq_true (by first | (with_reducible assumption) | assumption)
                obtain ⟨ad336, e336, hx336_0⟩ := Kd.at_int (Kd.R_reads' HO_5.out).2.2 (ji20) p336 q336
                obtain rfl : ad332 = ad336 := (by injection e336)
                replace p336 := eq_true p336
                replace q336 := eq_true q336
                refine start_ (n := 21) (S := fun w' => w'.cell? (ad332.add ((ji20)).toNat) = some (.int .u32 (rd x5_2 (ji20))) ∧ w'.cell? (ad332.add ((ji20)).toNat) = some (.int .u32 (rd x5_2 (ji20))) ∧ w'.cell? (ad332.add ((ji20)).toNat) = some (.int .u32 (rd x5_2 (ji20)))) (ds := []) (bb 21 0) (by kernel_rfl) rfl rfl ⟨hx332_0, hx334_0, hx336_0⟩ (fun hHeld => ?_); refine with_tabW aircheckref02_block.tab9 aircheckref02_block.bits9 (fun HT_ HW_ => ?_)
                generalize wr.drew = w37 at HO_5 HB hx332_0 hx334_0 hx336_0 hHeld ⊢
                refine pj_ (v := ?_) (a' := ?_) 0 (some 63) (bb 21 1) rfl rfl HT_ (by kernel_rfl) (fun _ _ _ h => h) (by rfl) ?_ ?_ ?_
                rotate_left; (intro w'; go_simp; with_reducible rfl); rotate_left; (simp only [Act.put, z1, z2, z3, i64_w, i32_w]; rfl)
                refine pj_ (v := ?_) (a' := ?_) 1 (some 64) (bb 21 3) rfl rfl HT_ (by kernel_rfl) (fun _ _ _ h => h) (by rfl) ?_ ?_ ?_
                rotate_left; (intro w'; go_simp; with_reducible rfl); rotate_left; (simp only [Act.put, z1, z2, z3, i64_w, i32_w]; rfl)
                refine pj_ (v := ?_) (a' := ?_) 2 (some 65) (bb 21 7) rfl rfl HT_ (by kernel_rfl) (fun _ _ _ h => h) (by rfl) ?_ ?_ ?_
                rotate_left; (intro w'; go_simp; with_reducible rfl); rotate_left; (simp only [Act.put, z1, z2, z3, i64_w, i32_w]; rfl)
                refine pj_ (v := ?_) (a' := ?_) 3 (some 66) (bb 21 15) rfl rfl HT_ (by kernel_rfl) (fun _ _ _ h => h) (by rfl) ?_ ?_ ?_
                rotate_left; (intro w'; go_simp; with_reducible rfl); rotate_left; (simp only [Act.put, z1, z2, z3, i64_w, i32_w]; rfl)
                refine pj_ (v := ?_) (a' := ?_) 6 (some 69) (bb 21 79) rfl rfl HT_ (by kernel_rfl) (fun _ _ _ h => h) (by rfl) ?_ ?_ ?_
                rotate_left; (intro w'; go_simp; with_reducible rfl); rotate_left; (simp only [Act.put, z1, z2, z3, i64_w, i32_w]; rfl)
                refine pj_ (v := ?_) (a' := ?_) 7 (some 70) (bb 21 207) rfl rfl HT_ (by kernel_rfl) (fun _ _ _ h => h) (by rfl) ?_ ?_ ?_
                rotate_left; (intro w'; go_simp; with_reducible rfl); rotate_left; (simp only [Act.put, z1, z2, z3, i64_w, i32_w]; rfl)
                refine pj_ (v := ?_) (a' := ?_) 8 (some 71) (bb 21 463) rfl rfl HT_ (by kernel_rfl) (fun _ _ _ h => h) (by rfl) ?_ ?_ ?_
                rotate_left; (intro w'; go_simp; with_reducible rfl); rotate_left; (simp only [Act.put, z1, z2, z3, i64_w, i32_w]; rfl)
                refine pj_ (v := ?_) (a' := ?_) 9 (some 72) (bb 21 975) rfl rfl HT_ (by kernel_rfl) (fun _ _ _ h => h) (by rfl) ?_ ?_ ?_
                rotate_left; (intro w'; go_simp; with_reducible rfl); rotate_left; (simp only [Act.put, z1, z2, z3, i64_w, i32_w]; rfl)
                refine pj_ (v := ?_) (a' := ?_) 13 (some 76) (bb 21 9167) rfl rfl HT_ (by kernel_rfl) (fun _ _ _ h => h) (by rfl) ?_ ?_ ?_
                rotate_left; (intro w'; go_simp; with_reducible rfl); rotate_left; (simp only [Act.put, z1, z2, z3, i64_w, i32_w]; rfl)
                refine pj_ (v := ?_) (a' := ?_) 14 (some 77) (bb 21 25551) rfl rfl HT_ (by kernel_rfl) (fun _ _ _ h => h) (by rfl) ?_ ?_ ?_
                rotate_left; (intro w'; go_simp; with_reducible rfl); rotate_left; (simp only [Act.put, z1, z2, z3, i64_w, i32_w]; rfl)
                refine pj_ (v := ?_) (a' := ?_) 15 (some 78) (bb 21 58319) rfl rfl HT_ (by kernel_rfl) (fun _ _ _ h => h) (by rfl) ?_ ?_ ?_
                rotate_left; (intro w'; go_simp; with_reducible rfl); rotate_left; (simp only [Act.put, z1, z2, z3, i64_w, i32_w]; rfl)
                refine pj_ (v := ?_) (a' := ?_) 16 (some 79) (bb 21 123855) rfl rfl HT_ (by kernel_rfl) (fun _ _ _ h => h) (by rfl) ?_ ?_ ?_
                rotate_left; (intro w'; go_simp; with_reducible rfl); rotate_left; (simp only [Act.put, z1, z2, z3, i64_w, i32_w]; rfl)
                refine tj_ (v := ?_) (a' := ?_) 4 (some 67) (bb 21 123871) rfl rfl HT_ HW_ (by kernel_rfl) (fun _ _ _ h => h) (by rfl) hHeld ?_ ?_ ?_
                rotate_left; (rintro w' ⟨s0, s1, s2⟩; go_simp; with_reducible rfl); rotate_left; (simp only [Act.put, z1, z2, z3, i64_w, i32_w]; rfl)
                refine tj_ (v := ?_) (a' := ?_) 10 (some 73) (bb 21 124895) rfl rfl HT_ HW_ (by kernel_rfl) (fun _ _ _ h => h) (by rfl) hHeld ?_ ?_ ?_
                rotate_left; (rintro w' ⟨s0, s1, s2⟩; go_simp; with_reducible rfl); rotate_left; (simp only [Act.put, z1, z2, z3, i64_w, i32_w]; rfl)
                refine tj_ (v := ?_) (a' := ?_) 17 (some 80) (bb 21 255967) rfl rfl HT_ HW_ (by kernel_rfl) (fun _ _ _ h => h) (by rfl) hHeld ?_ ?_ ?_
                rotate_left; (rintro w' ⟨s0, s1, s2⟩; go_simp; with_reducible rfl); rotate_left; (simp only [Act.put, z1, z2, z3, i64_w, i32_w]; rfl)
                refine pj_ (v := ?_) (a' := ?_) 18 (some 81) (bb 21 518111) rfl rfl HT_ (by kernel_rfl) (fun _ _ _ h => h) (by rfl) ?_ ?_ ?_
                rotate_left; (intro w'; go_simp; with_reducible rfl); rotate_left; (simp only [Act.put, z1, z2, z3, i64_w, i32_w]; rfl)
                refine one_ (i := 5) (N := some 68) (bb 21 518143) rfl rfl (one_of HT_.out (by kernel_rfl)) (by decide) (fun K hK => ?_)
                refine goes_ Tryd.func58 (by kernel_rfl) rfl #[.int .u32 (rd x5_2 (ji20)), .int .i64 7] (by rfl) rfl rfl (by (try simp only [List.map_toArray, List.map_cons, List.map_nil]); first | done | (simp only [hji20]; rfl) | rfl | (simp only [List.length_drop, List.length_take]; rfl)) ?_
                with_reducible refine (aircheckref02_rotated.calls (rd x5_2 (ji20)) 7 t333 _ A23.out).mono ?_
                rintro e w' ⟨rfl, ⟨nd, rfl⟩⟩
                refine ⟨_, rfl, ?_⟩
                refine hK.out _ _ ⟨hHeld.1, hHeld.2.1, hHeld.2.2⟩ (fun hHeld => ?_)
                clear hK K
                refine norm_ (a' := ?_) ?_ ?_
                rotate_left
                ·show Act.put _ (some 68) _ = _
                 simp only [Act.put, z1, z2, z3, i64_w, i32_w]
                 rfl
                refine one_ (i := 11) (N := some 74) (bb 21 520191) rfl rfl (one_of HT_.out (by kernel_rfl)) (by decide) (fun K hK => ?_)
                refine goes_ Tryd.func58 (by kernel_rfl) rfl #[.int .u32 (rd x5_2 (ji20)), .int .i64 18] (by rfl) rfl rfl (by (try simp only [List.map_toArray, List.map_cons, List.map_nil]); first | done | (simp only [hji20]; rfl) | rfl | (simp only [List.length_drop, List.length_take]; rfl)) ?_
                with_reducible refine (aircheckref02_rotated.calls (rd x5_2 (ji20)) 18 t335 _ A24.out).mono ?_
                rintro e w' ⟨rfl, ⟨nd, rfl⟩⟩
                refine ⟨_, rfl, ?_⟩
                refine hK.out _ _ ⟨hHeld.1, hHeld.2.1, hHeld.2.2⟩ (fun hHeld => ?_)
                clear hK K
                refine norm_ (a' := ?_) ?_ ?_
                rotate_left
                ·show Act.put _ (some 74) _ = _
                 simp only [Act.put, z1, z2, z3, i64_w, i32_w]
                 rfl
                refine pj_ (v := ?_) (a' := ?_) 12 (some 75) (bb 21 524287) rfl rfl HT_ (by kernel_rfl) (fun _ _ _ h => h) (by rfl) ?_ ?_ ?_
                rotate_left; (intro w'; go_simp; with_reducible rfl); rotate_left; (simp only [Act.put, z1, z2, z3, i64_w, i32_w]; rfl)
                refine pj_ (v := ?_) (a' := ?_) 19 (some 82) (bb 21 1048575) rfl rfl HT_ (by kernel_rfl) (fun _ _ _ h => h) (by rfl) ?_ ?_ ?_
                rotate_left; (intro w'; go_simp; with_reducible rfl); rotate_left; (simp only [Act.put, z1, z2, z3, i64_w, i32_w]; rfl)
                refine pj_ (v := ?_) (a' := ?_) 20 (some 8) (bb 21 2097151) rfl rfl HT_ (by kernel_rfl) (fun _ _ _ h => h) (by rfl) ?_ ?_ ?_
                rotate_left; (intro w'; go_simp; with_reducible rfl); rotate_left; (simp only [Act.put, z1, z2, z3, i64_w, i32_w]; rfl)
                refine done_ (done_of HT_.out (by kernel_rfl)) ?_
                try go_wp2
                (try (rw [drewN_self w37]; generalize hq_ : World.drewN w37 _ = w37; have n0_ : Aside0 (Kd.R (Kd.int .u32) 77 w37 w.heap.size (fun _ => True) (.slice (some ad332) x5_2.length co38) x5_2) := ⟨by rw [← hq_]; exact (by (with_reducible repeat (first | apply Kd.R_alloc | apply Kd.R_drewN | apply Kd.R_drew)); exact HO_5.out)⟩; have n1_ : Aside0 (Below w.heap.size w w37) := ⟨by rw [← hq_]; exact (by repeat (first | (with_reducible first | exact HB.out | apply below_alloc | apply pw_below_drewN | apply below_drew1) | exact HB.out))⟩; clear HO_5 HB hq_; have HO_5 := n0_; have HB := n1_; clear n0_ n1_))
                have n0_ := Aside0.mk (Kd.R_drew HO_5.out)
                have n1_ := Aside0.mk (below_drew1 HB.out)
                clear HO_5
                clear HB
                have HO_5 := n0_
                have HB := n1_
                clear n0_ n1_
                have p337 : 0 ≤ ((ji25) : Int) := of_decide_eq_true (by first | (with_reducible assumption) | assumption)
                have q337 : (ji25) < (x5_2.length : Int) := of_decide_eq_true (by first | (with_reducible assumption) | assumption)
                obtain ⟨ad337, e337, hx337_0⟩ := Kd.at_int (Kd.R_reads' HO_5.out).2.2 (ji25) p337 q337
                obtain rfl : ad332 = ad337 := (by injection e337)
                replace p337 := eq_true p337
                replace q337 := eq_true q337
                have p339 : 0 ≤ ((ji25) : Int) := of_decide_eq_true (by first | (with_reducible assumption) | assumption)
                have q339 : (ji25) < (x5_2.length : Int) := of_decide_eq_true (by first | (with_reducible assumption) | assumption)
                obtain ⟨ad339, e339, hx339_0⟩ := Kd.at_int (Kd.R_reads' HO_5.out).2.2 (ji25) p339 q339
                obtain rfl : ad332 = ad339 := (by injection e339)
                replace p339 := eq_true p339
                replace q339 := eq_true q339
                have p341 : 0 ≤ ((ji25) : Int) := of_decide_eq_true (by first | (with_reducible assumption) | assumption)
                have q341 : (ji25) < (x5_2.length : Int) := of_decide_eq_true (by first | (with_reducible assumption) | assumption)
                obtain ⟨ad341, e341, hx341_0⟩ := Kd.at_int (Kd.R_reads' HO_5.out).2.2 (ji25) p341 q341
                obtain rfl : ad332 = ad341 := (by injection e341)
                replace p341 := eq_true p341
                replace q341 := eq_true q341
                refine start_ (n := 21) (S := fun w' => w'.cell? (ad332.add ((ji25)).toNat) = some (.int .u32 (rd x5_2 (ji25))) ∧ w'.cell? (ad332.add ((ji25)).toNat) = some (.int .u32 (rd x5_2 (ji25))) ∧ w'.cell? (ad332.add ((ji25)).toNat) = some (.int .u32 (rd x5_2 (ji25)))) (ds := []) (bb 21 0) (by kernel_rfl) rfl rfl ⟨hx337_0, hx339_0, hx341_0⟩ (fun hHeld => ?_); refine with_tabW aircheckref02_block.tab10 aircheckref02_block.bits10 (fun HT_ HW_ => ?_)
                generalize w37.drew = w39 at HO_5 HB hx337_0 hx339_0 hx341_0 hHeld ⊢
                refine pj_ (v := ?_) (a' := ?_) 0 (some 83) (bb 21 1) rfl rfl HT_ (by kernel_rfl) (fun _ _ _ h => h) (by rfl) ?_ ?_ ?_
                rotate_left; (intro w'; go_simp; with_reducible rfl); rotate_left; (simp only [Act.put, z1, z2, z3, i64_w, i32_w]; rfl)
                refine pj_ (v := ?_) (a' := ?_) 1 (some 84) (bb 21 3) rfl rfl HT_ (by kernel_rfl) (fun _ _ _ h => h) (by rfl) ?_ ?_ ?_
                rotate_left; (intro w'; go_simp; with_reducible rfl); rotate_left; (simp only [Act.put, z1, z2, z3, i64_w, i32_w]; rfl)
                refine pj_ (v := ?_) (a' := ?_) 2 (some 85) (bb 21 7) rfl rfl HT_ (by kernel_rfl) (fun _ _ _ h => h) (by rfl) ?_ ?_ ?_
                rotate_left; (intro w'; go_simp; with_reducible rfl); rotate_left; (simp only [Act.put, z1, z2, z3, i64_w, i32_w]; rfl)
                refine pj_ (v := ?_) (a' := ?_) 3 (some 86) (bb 21 15) rfl rfl HT_ (by kernel_rfl) (fun _ _ _ h => h) (by rfl) ?_ ?_ ?_
                rotate_left; (intro w'; go_simp; with_reducible rfl); rotate_left; (simp only [Act.put, z1, z2, z3, i64_w, i32_w]; rfl)
                refine pj_ (v := ?_) (a' := ?_) 6 (some 89) (bb 21 79) rfl rfl HT_ (by kernel_rfl) (fun _ _ _ h => h) (by rfl) ?_ ?_ ?_
                rotate_left; (intro w'; go_simp; with_reducible rfl); rotate_left; (simp only [Act.put, z1, z2, z3, i64_w, i32_w]; rfl)
                refine pj_ (v := ?_) (a' := ?_) 7 (some 90) (bb 21 207) rfl rfl HT_ (by kernel_rfl) (fun _ _ _ h => h) (by rfl) ?_ ?_ ?_
                rotate_left; (intro w'; go_simp; with_reducible rfl); rotate_left; (simp only [Act.put, z1, z2, z3, i64_w, i32_w]; rfl)
                refine pj_ (v := ?_) (a' := ?_) 8 (some 91) (bb 21 463) rfl rfl HT_ (by kernel_rfl) (fun _ _ _ h => h) (by rfl) ?_ ?_ ?_
                rotate_left; (intro w'; go_simp; with_reducible rfl); rotate_left; (simp only [Act.put, z1, z2, z3, i64_w, i32_w]; rfl)
                refine pj_ (v := ?_) (a' := ?_) 9 (some 92) (bb 21 975) rfl rfl HT_ (by kernel_rfl) (fun _ _ _ h => h) (by rfl) ?_ ?_ ?_
                rotate_left; (intro w'; go_simp; with_reducible rfl); rotate_left; (simp only [Act.put, z1, z2, z3, i64_w, i32_w]; rfl)
                refine pj_ (v := ?_) (a' := ?_) 13 (some 96) (bb 21 9167) rfl rfl HT_ (by kernel_rfl) (fun _ _ _ h => h) (by rfl) ?_ ?_ ?_
                rotate_left; (intro w'; go_simp; with_reducible rfl); rotate_left; (simp only [Act.put, z1, z2, z3, i64_w, i32_w]; rfl)
                refine pj_ (v := ?_) (a' := ?_) 14 (some 97) (bb 21 25551) rfl rfl HT_ (by kernel_rfl) (fun _ _ _ h => h) (by rfl) ?_ ?_ ?_
                rotate_left; (intro w'; go_simp; with_reducible rfl); rotate_left; (simp only [Act.put, z1, z2, z3, i64_w, i32_w]; rfl)
                refine pj_ (v := ?_) (a' := ?_) 15 (some 98) (bb 21 58319) rfl rfl HT_ (by kernel_rfl) (fun _ _ _ h => h) (by rfl) ?_ ?_ ?_
                rotate_left; (intro w'; go_simp; with_reducible rfl); rotate_left; (simp only [Act.put, z1, z2, z3, i64_w, i32_w]; rfl)
                refine pj_ (v := ?_) (a' := ?_) 16 (some 99) (bb 21 123855) rfl rfl HT_ (by kernel_rfl) (fun _ _ _ h => h) (by rfl) ?_ ?_ ?_
                rotate_left; (intro w'; go_simp; with_reducible rfl); rotate_left; (simp only [Act.put, z1, z2, z3, i64_w, i32_w]; rfl)
                refine tj_ (v := ?_) (a' := ?_) 4 (some 87) (bb 21 123871) rfl rfl HT_ HW_ (by kernel_rfl) (fun _ _ _ h => h) (by rfl) hHeld ?_ ?_ ?_
                rotate_left; (rintro w' ⟨s0, s1, s2⟩; go_simp; with_reducible rfl); rotate_left; (simp only [Act.put, z1, z2, z3, i64_w, i32_w]; rfl)
                refine tj_ (v := ?_) (a' := ?_) 10 (some 93) (bb 21 124895) rfl rfl HT_ HW_ (by kernel_rfl) (fun _ _ _ h => h) (by rfl) hHeld ?_ ?_ ?_
                rotate_left; (rintro w' ⟨s0, s1, s2⟩; go_simp; with_reducible rfl); rotate_left; (simp only [Act.put, z1, z2, z3, i64_w, i32_w]; rfl)
                refine tj_ (v := ?_) (a' := ?_) 17 (some 100) (bb 21 255967) rfl rfl HT_ HW_ (by kernel_rfl) (fun _ _ _ h => h) (by rfl) hHeld ?_ ?_ ?_
                rotate_left; (rintro w' ⟨s0, s1, s2⟩; go_simp; with_reducible rfl); rotate_left; (simp only [Act.put, z1, z2, z3, i64_w, i32_w]; rfl)
                refine pj_ (v := ?_) (a' := ?_) 18 (some 101) (bb 21 518111) rfl rfl HT_ (by kernel_rfl) (fun _ _ _ h => h) (by rfl) ?_ ?_ ?_
                rotate_left; (intro w'; go_simp; with_reducible rfl); rotate_left; (simp only [Act.put, z1, z2, z3, i64_w, i32_w]; rfl)
                refine one_ (i := 5) (N := some 88) (bb 21 518143) rfl rfl (one_of HT_.out (by kernel_rfl)) (by decide) (fun K hK => ?_)
                refine goes_ Tryd.func58 (by kernel_rfl) rfl #[.int .u32 (rd x5_2 (ji25)), .int .i64 17] (by rfl) rfl rfl (by (try simp only [List.map_toArray, List.map_cons, List.map_nil]); first | done | (simp only [hji25]; rfl) | rfl | (simp only [List.length_drop, List.length_take]; rfl)) ?_
                with_reducible refine (aircheckref02_rotated.calls (rd x5_2 (ji25)) 17 t338 _ A28.out).mono ?_
                rintro e w' ⟨rfl, ⟨nd, rfl⟩⟩
                refine ⟨_, rfl, ?_⟩
                refine hK.out _ _ ⟨hHeld.1, hHeld.2.1, hHeld.2.2⟩ (fun hHeld => ?_)
                clear hK K
                refine norm_ (a' := ?_) ?_ ?_
                rotate_left
                ·show Act.put _ (some 88) _ = _
                 simp only [Act.put, z1, z2, z3, i64_w, i32_w]
                 rfl
                refine one_ (i := 11) (N := some 94) (bb 21 520191) rfl rfl (one_of HT_.out (by kernel_rfl)) (by decide) (fun K hK => ?_)
                refine goes_ Tryd.func58 (by kernel_rfl) rfl #[.int .u32 (rd x5_2 (ji25)), .int .i64 19] (by rfl) rfl rfl (by (try simp only [List.map_toArray, List.map_cons, List.map_nil]); first | done | (simp only [hji25]; rfl) | rfl | (simp only [List.length_drop, List.length_take]; rfl)) ?_
                with_reducible refine (aircheckref02_rotated.calls (rd x5_2 (ji25)) 19 t340 _ A29.out).mono ?_
                rintro e w' ⟨rfl, ⟨nd, rfl⟩⟩
                refine ⟨_, rfl, ?_⟩
                refine hK.out _ _ ⟨hHeld.1, hHeld.2.1, hHeld.2.2⟩ (fun hHeld => ?_)
                clear hK K
                refine norm_ (a' := ?_) ?_ ?_
                rotate_left
                ·show Act.put _ (some 94) _ = _
                 simp only [Act.put, z1, z2, z3, i64_w, i32_w]
                 rfl
                refine pj_ (v := ?_) (a' := ?_) 12 (some 95) (bb 21 524287) rfl rfl HT_ (by kernel_rfl) (fun _ _ _ h => h) (by rfl) ?_ ?_ ?_
                rotate_left; (intro w'; go_simp; with_reducible rfl); rotate_left; (simp only [Act.put, z1, z2, z3, i64_w, i32_w]; rfl)
                refine pj_ (v := ?_) (a' := ?_) 19 (some 102) (bb 21 1048575) rfl rfl HT_ (by kernel_rfl) (fun _ _ _ h => h) (by rfl) ?_ ?_ ?_
                rotate_left; (intro w'; go_simp; with_reducible rfl); rotate_left; (simp only [Act.put, z1, z2, z3, i64_w, i32_w]; rfl)
                refine pj_ (v := ?_) (a' := ?_) 20 (some 9) (bb 21 2097151) rfl rfl HT_ (by kernel_rfl) (fun _ _ _ h => h) (by rfl) ?_ ?_ ?_
                rotate_left; (intro w'; go_simp; with_reducible rfl); rotate_left; (simp only [Act.put, z1, z2, z3, i64_w, i32_w]; rfl)
                refine done_ (done_of HT_.out (by kernel_rfl)) ?_
                try go_wp2
                (try (rw [drewN_self w39]; generalize hq_ : World.drewN w39 _ = w39; have n0_ : Aside0 (Kd.R (Kd.int .u32) 77 w39 w.heap.size (fun _ => True) (.slice (some ad332) x5_2.length co38) x5_2) := ⟨by rw [← hq_]; exact (by (with_reducible repeat (first | apply Kd.R_alloc | apply Kd.R_drewN | apply Kd.R_drew)); exact HO_5.out)⟩; have n1_ : Aside0 (Below w.heap.size w w39) := ⟨by rw [← hq_]; exact (by repeat (first | (with_reducible first | exact HB.out | apply below_alloc | apply pw_below_drewN | apply below_drew1) | exact HB.out))⟩; clear HO_5 HB hq_; have HO_5 := n0_; have HB := n1_; clear n0_ n1_))
                have n0_ := Aside0.mk (Kd.R_drew HO_5.out)
                have n1_ := Aside0.mk (below_drew1 HB.out)
                clear HO_5
                clear HB
                have HO_5 := n0_
                have HB := n1_
                clear n0_ n1_
                have p342 : 0 ≤ ((ji30) : Int) := of_decide_eq_true (by first | (with_reducible assumption) | assumption)
                have q342 : (ji30) < (x5_2.length : Int) := of_decide_eq_true (by first | (with_reducible assumption) | assumption)
                obtain ⟨ad342, e342, hx342_0⟩ := Kd.at_int (Kd.R_reads' HO_5.out).2.2 (ji30) p342 q342
                obtain rfl : ad332 = ad342 := (by injection e342)
                replace p342 := eq_true p342
                replace q342 := eq_true q342
                have p343 : 0 ≤ ((ji33) : Int) := of_decide_eq_true (by first | (with_reducible assumption) | assumption)
                have q343 : (ji33) < (x5_2.length : Int) := of_decide_eq_true (by first | (with_reducible assumption) | assumption)
                obtain ⟨ad343, e343, hx343_0⟩ := Kd.at_int (Kd.R_reads' HO_5.out).2.2 (ji33) p343 q343
                obtain rfl : ad332 = ad343 := (by injection e343)
                replace p343 := eq_true p343
                replace q343 := eq_true q343
                refine start_ (n := 19) (S := fun w' => w'.cell? (ad332.add ((ji30)).toNat) = some (.int .u32 (rd x5_2 (ji30))) ∧ w'.cell? (ad332.add ((ji33)).toNat) = some (.int .u32 (rd x5_2 (ji33)))) (ds := [16, 17]) (bb 19 0) (by kernel_rfl) rfl rfl ⟨hx342_0, hx343_0⟩ (fun hHeld => ?_); refine with_tabW aircheckref02_block.tab11 aircheckref02_block.bits11 (fun HT_ HW_ => ?_)
                generalize w39.drew = w40 at HO_5 HB hx342_0 hx343_0 hHeld ⊢
                refine pj_ (v := ?_) (a' := ?_) 0 (some 103) (bb 19 1) rfl rfl HT_ (by kernel_rfl) (fun _ _ _ h => h) (by rfl) ?_ ?_ ?_
                rotate_left; (intro w'; go_simp; with_reducible rfl); rotate_left; (simp only [Act.put, z1, z2, z3, i64_w, i32_w]; rfl)
                refine pj_ (v := ?_) (a' := ?_) 1 (some 104) (bb 19 3) rfl rfl HT_ (by kernel_rfl) (fun _ _ _ h => h) (by rfl) ?_ ?_ ?_
                rotate_left; (intro w'; go_simp; with_reducible rfl); rotate_left; (simp only [Act.put, z1, z2, z3, i64_w, i32_w]; rfl)
                refine pj_ (v := ?_) (a' := ?_) 2 (some 105) (bb 19 7) rfl rfl HT_ (by kernel_rfl) (fun _ _ _ h => h) (by rfl) ?_ ?_ ?_
                rotate_left; (intro w'; go_simp; with_reducible rfl); rotate_left; (simp only [Act.put, z1, z2, z3, i64_w, i32_w]; rfl)
                refine pj_ (v := ?_) (a' := ?_) 3 (some 106) (bb 19 15) rfl rfl HT_ (by kernel_rfl) (fun _ _ _ h => h) (by rfl) ?_ ?_ ?_
                rotate_left; (intro w'; go_simp; with_reducible rfl); rotate_left; (simp only [Act.put, z1, z2, z3, i64_w, i32_w]; rfl)
                refine pj_ (v := ?_) (a' := ?_) 4 (some 107) (bb 19 31) rfl rfl HT_ (by kernel_rfl) (fun _ _ _ h => h) (by rfl) ?_ ?_ ?_
                rotate_left; (intro w'; go_simp; with_reducible rfl); rotate_left; (simp only [Act.put, z1, z2, z3, i64_w, i32_w]; rfl)
                refine pj_ (v := ?_) (a' := ?_) 6 (some 109) (bb 19 95) rfl rfl HT_ (by kernel_rfl) (fun _ _ _ h => h) (by rfl) ?_ ?_ ?_
                rotate_left; (intro w'; go_simp; with_reducible rfl); rotate_left; (simp only [Act.put, z1, z2, z3, i64_w, i32_w]; rfl)
                refine pj_ (v := ?_) (a' := ?_) 8 (some 111) (bb 19 351) rfl rfl HT_ (by kernel_rfl) (fun _ _ _ h => h) (by rfl) ?_ ?_ ?_
                rotate_left; (intro w'; go_simp; with_reducible rfl); rotate_left; (simp only [Act.put, z1, z2, z3, i64_w, i32_w]; rfl)
                refine pj_ (v := ?_) (a' := ?_) 9 (some 112) (bb 19 863) rfl rfl HT_ (by kernel_rfl) (fun _ _ _ h => h) (by rfl) ?_ ?_ ?_
                rotate_left; (intro w'; go_simp; with_reducible rfl); rotate_left; (simp only [Act.put, z1, z2, z3, i64_w, i32_w]; rfl)
                refine pj_ (v := ?_) (a' := ?_) 10 (some 113) (bb 19 1887) rfl rfl HT_ (by kernel_rfl) (fun _ _ _ h => h) (by rfl) ?_ ?_ ?_
                rotate_left; (intro w'; go_simp; with_reducible rfl); rotate_left; (simp only [Act.put, z1, z2, z3, i64_w, i32_w]; rfl)
                refine pj_ (v := ?_) (a' := ?_) 11 (some 114) (bb 19 3935) rfl rfl HT_ (by kernel_rfl) (fun _ _ _ h => h) (by rfl) ?_ ?_ ?_
                rotate_left; (intro w'; go_simp; with_reducible rfl); rotate_left; (simp only [Act.put, z1, z2, z3, i64_w, i32_w]; rfl)
                refine pj_ (v := ?_) (a' := ?_) 14 (some 117) (bb 19 20319) rfl rfl HT_ (by kernel_rfl) (fun _ _ _ h => h) (by rfl) ?_ ?_ ?_
                rotate_left; (intro w'; go_simp; with_reducible rfl); rotate_left; (simp only [Act.put, z1, z2, z3, i64_w, i32_w]; rfl)
                refine tj_ (v := ?_) (a' := ?_) 5 (some 108) (bb 19 20351) rfl rfl HT_ HW_ (by kernel_rfl) (fun _ _ _ h => h) (by rfl) hHeld ?_ ?_ ?_
                rotate_left; (rintro w' ⟨s0, s1⟩; go_simp; with_reducible rfl); rotate_left; (simp only [Act.put, z1, z2, z3, i64_w, i32_w]; rfl)
                refine pj_ (v := ?_) (a' := ?_) 7 (some 110) (bb 19 20479) rfl rfl HT_ (by kernel_rfl) (fun _ _ _ h => h) (by rfl) ?_ ?_ ?_
                rotate_left; (intro w'; go_simp; with_reducible rfl); rotate_left; (simp only [Act.put, z1, z2, z3, i64_w, i32_w]; rfl)
                refine tj_ (v := ?_) (a' := ?_) 12 (some 115) (bb 19 24575) rfl rfl HT_ HW_ (by kernel_rfl) (fun _ _ _ h => h) (by rfl) hHeld ?_ ?_ ?_
                rotate_left; (rintro w' ⟨s0, s1⟩; go_simp; with_reducible rfl); rotate_left; (simp only [Act.put, z1, z2, z3, i64_w, i32_w]; rfl)
                refine pj_ (v := ?_) (a' := ?_) 13 (some 116) (bb 19 32767) rfl rfl HT_ (by kernel_rfl) (fun _ _ _ h => h) (by rfl) ?_ ?_ ?_
                rotate_left; (intro w'; go_simp; with_reducible rfl); rotate_left; (simp only [Act.put, z1, z2, z3, i64_w, i32_w]; rfl)
                refine pj_ (v := ?_) (a' := ?_) 15 (some 118) (bb 19 65535) rfl rfl HT_ (by kernel_rfl) (fun _ _ _ h => h) (by rfl) ?_ ?_ ?_
                rotate_left; (intro w'; go_simp; with_reducible rfl); rotate_left; (simp only [Act.put, z1, z2, z3, i64_w, i32_w]; rfl)
                refine last_ (i := 16) (N := some 119) (bb 19 131071) rfl rfl (one_of HT_.out (by kernel_rfl)) (by decide) (fun K hK => ?_)
                refine value_ (w1 := ?_) (v := ?_) (by rfl) rfl ?_ ?_
                rotate_left 2
                ·go_simp
                 constructor
                 ·rfl
                 ·rfl
                refine hK.out _ _ ?_
                clear hK K
                refine norm_ (a' := ?_) ?_ ?_
                rotate_left
                ·show Act.put _ (some 119) _ = _
                 simp only [Act.put, z1, z2, z3, i64_w, i32_w]
                 rfl
                refine last_ (i := 17) (N := some 120) (bb 19 262143) rfl rfl (one_of HT_.out (by kernel_rfl)) (by decide) (fun K hK => ?_)
                refine Kd.R_append_step (Kd.int .u32) (w0 := w) w.heap.size (by rfl) (.tmp 103) (.tmp 119) 78 77 (.int .u32 0) 4 rfl Tryd.underlying78 info77 rfl (by decide) (by omega) (.slice (some ad332) x5_2.length co38) x5_2 (((((((rd x5_2 (ji30)) + (Go.bits .xor .u32 (Go.bits .xor .u32 t333 t335) ((rd x5_2 (ji20)) / 8))) % 4294967296) + (rd x5_2 (ji33))) % 4294967296) + (Go.bits .xor .u32 (Go.bits .xor .u32 t338 t340) ((rd x5_2 (ji25)) / 1024))) % 4294967296) [.int .u32 (((((((rd x5_2 (ji30)) + (Go.bits .xor .u32 (Go.bits .xor .u32 t333 t335) ((rd x5_2 (ji20)) / 8))) % 4294967296) + (rd x5_2 (ji33))) % 4294967296) + (Go.bits .xor .u32 (Go.bits .xor .u32 t338 t340) ((rd x5_2 (ji25)) / 1024))) % 4294967296)] (fun _ => True) (fun _ => False) rfl rfl ?aP (fun _ hk => hk.elim) ?aF ?aO ?aB ?aS ?aL ?_
                (case aP => exact rfl)
                (case aB => exact (by repeat (first | (with_reducible first | exact HB.out | apply below_alloc | apply pw_below_drewN | apply below_drew1) | exact HB.out)))
                (case aF => exact (fun _ _ => trivial))
                (case aO => exact (by (with_reducible repeat (first | apply Kd.R_alloc | apply Kd.R_drewN | apply Kd.R_drew)); exact HO_5.out))
                (case aS => exact (below_size (by repeat (first | (with_reducible first | exact HB.out | apply below_alloc | apply pw_below_drewN | apply below_drew1) | exact HB.out))))
                (case aL => have := LMc36.out; omega)
                intro v345 w41 ho hb hg hat
                rw [← Ny344.out] at ho
                have n0_ := Aside0.mk (hb)
                have n1_ := Aside0.mk (ho)
                clear HB
                clear HO_5
                have HB := n0_
                have HO346 := n1_
                clear n0_ n1_
                clear ho hb hg hat
                refine hK.out _ _ ?_
                clear hK K
                refine norm_ (a' := ?_) ?_ ?_
                rotate_left
                ·show Act.put _ (some 120) _ = _
                 simp only [Act.put, z1, z2, z3, i64_w, i32_w]
                 rfl
                refine pj_ (v := ?_) (a' := ?_) 18 (some 5) (bb 19 524287) rfl rfl HT_ (by kernel_rfl) (fun _ _ _ h => h) (by rfl) ?_ ?_ ?_
                rotate_left; (intro w'; go_simp; with_reducible rfl); rotate_left; (simp only [Act.put, z1, z2, z3, i64_w, i32_w]; rfl)
                refine done_ (done_of HT_.out (by kernel_rfl)) ?_
                try go_wp2
                go_roundg k2
                case measure => have := HK1.out; have := HK2.out; omega
                case rel => exact ⟨(y344), (wrap64 (x7_2 + 1)), (by first | rfl | (simp; done) | (simp [*]; done)), H', ⟨by have := HK1.out; have := HK2.out; omega⟩, ⟨by (with_reducible repeat (first | apply Kd.R_alloc | apply Kd.R_drewN | apply Kd.R_drew)); exact HO346.out⟩, ⟨by repeat (first | (with_reducible first | exact HB.out | apply below_alloc | apply pw_below_drewN | apply below_drew1) | exact HB.out)⟩⟩
               ·rw [if_neg c36] at H
                exact absurd H (by simp)
              ·rw [if_neg c35] at H
               exact absurd H (by simp)
             ·rw [if_neg c34] at H
              exact absurd H (by simp)
            ·rw [if_neg c32] at H
             exact absurd H (by simp)
           ·rw [if_neg c31] at H
            exact absurd H (by simp)
          ·rw [if_neg c27] at H
           exact absurd H (by simp)
         ·rw [if_neg c26] at H
          exact absurd H (by simp)
        ·rw [if_neg c22] at H
         exact absurd H (by simp)
       ·rw [if_neg c21] at H
        exact absurd H (by simp)
      ·rw [if_neg c19] at H
       have c19b0 : decide (x7_2 < 64) = false := decide_eq_false c19
       clear c19
       replace H := Option.bind_eq_some_iff.mp H
       obtain ⟨t347, A420, H⟩ := H
       replace H : (if ([] : List Int).length + l0.length < 35184372088832 then (aircheckref02_block.l2 k2 l0 x5_2 t347 (([] : List Int) ++ l0) 0) else (none)) = some r := H
       have A42 := Aside0.mk A420
       clear A420
       by_cases c43 : ([] : List Int).length + l0.length < 35184372088832
       ·rw [if_pos c43] at H
        have LMc43 := Aside0.mk c43
        clear c43
        obtain ⟨y350, hy350⟩ : ∃ y_ : List Int, y_ = (([] : List Int) ++ l0) := ⟨_, rfl⟩
        replace H : (aircheckref02_block.l2 k2 l0 x5_2 t347 y350 0) = some r := by first | (rw [hy350]; with_reducible exact H) | (have H2_ := (Option.bind_some _ _).symm.trans H; rw [hy350]; with_reducible exact H2_) | (have H2_ := (Option.bind_some _ _).symm.trans H; with_reducible exact H2_) | with_reducible exact H | (rw [hy350]; exact H) | exact H
        have Ny350 := Aside0.mk hy350
        clear hy350
        have H' := Aside0.mk H
        clear H
        go_wp2_with (first | ((with_reducible refine gate_callee (f := 59) rfl ?_); refine goesL_ (some 121) rfl rfl Tryd.func59 (by kernel_rfl) rfl #[] rfl (by (try simp only [List.map_toArray, List.map_cons, List.map_nil]); first | done | rfl | (simp only [List.length_drop, List.length_take]; rfl)) ?_; (with_reducible refine (aircheckref02_constants.calls t347 _ A42.out).mono ?_); rintro e w44 ⟨v348, rfl, ho0, hb⟩; refine ⟨_, rfl, ?_⟩; have n0_ := Aside0.mk (Kd.R_elder' (by (with_reducible repeat (first | apply Kd.R_alloc | apply Kd.R_drewN | apply Kd.R_drew)); exact HO_5.out) (Kd.R_base ho0) hb); have n1_ := Aside0.mk (Kd.R_lower (Kd.R_new' ho0 (Kd.R_lt (by (with_reducible repeat (first | apply Kd.R_alloc | apply Kd.R_drewN | apply Kd.R_drew)); exact HO_5.out))) (below_size (by repeat (first | (with_reducible first | exact HB.out | apply below_alloc | apply pw_below_drewN | apply below_drew1) | exact HB.out)))); have n2_ := Aside0.mk (below_step (by repeat (first | (with_reducible first | exact HB.out | apply below_alloc | apply pw_below_drewN | apply below_drew1) | exact HB.out)) hb); clear HO_5; clear HB; have HO_5 := n0_; have HO349 := n1_; have HB := n2_; clear n0_ n1_ n2_; (try clear hb); (try clear hb2); (try clear hk); (try clear hi); (try clear ho0)) | ((with_reducible refine gate_builtin (b := .append) (xs := #[.tmp 122, .tmp 123]) rfl ?_); at_builtin; refine Kd.R_append_rows (Kd.int .u32) (w0 := w) w.heap.size rfl (.tmp 122) (.tmp 123) 78 77 (.int .u32 0) 4 rfl Tryd.underlying78 info77 rfl (by decide) (by omega) (.slice none 0 0) ([] : List Int) l0 _ _ _ (fun k_ => some k_ ≠ (u5 : Value).ownBlock ∧ some k_ ≠ (v348 : Value).ownBlock) (fun _ => False) rfl rfl ?aO ?aR (fun _ _ h => h) (fun _ h => h.elim) ?aF ?aB ?aS ?aL ?_; (case aR => repeat (first | exact (Kd.C_below HR0.out HB.out) | (with_reducible refine Kd.C_alloc ?_ _) | (with_reducible refine Kd.C_drewN ?_ _) | (with_reducible refine Kd.C_drew ?_))); (case aB => exact (by repeat (first | (with_reducible first | exact HB.out | apply below_alloc | apply pw_below_drewN | apply below_drew1) | exact HB.out))); (case aF => exact (fun k_ hk => ⟨Kd.fresh' (Kd.R_lt (by (with_reducible repeat (first | apply Kd.R_alloc | apply Kd.R_drewN | apply Kd.R_drew)); exact HO_5.out)) k_ hk, Kd.fresh' (Kd.R_lt (by (with_reducible repeat (first | apply Kd.R_alloc | apply Kd.R_drewN | apply Kd.R_drew)); exact HO349.out)) k_ hk⟩)); (case aO => exact ((Kd.R_nil _ _ _ _ (fun k_ => some k_ ≠ (u5 : Value).ownBlock ∧ some k_ ≠ (v348 : Value).ownBlock)))); (case aS => exact (below_size (by repeat (first | (with_reducible first | exact HB.out | apply below_alloc | apply pw_below_drewN | apply below_drew1) | exact HB.out)))); (case aL => have := LMc43.out; omega); intro v351 w45 ho hb hg hat; rw [← Ny350.out] at ho; have n0_ := Aside0.mk (Kd.R_after (Kd.R_apart_nil (by (with_reducible repeat (first | apply Kd.R_alloc | apply Kd.R_drewN | apply Kd.R_drew)); exact HO_5.out)) hg hat); have n1_ := Aside0.mk (Kd.R_after (Kd.R_apart_nil (by (with_reducible repeat (first | apply Kd.R_alloc | apply Kd.R_drewN | apply Kd.R_drew)); exact HO349.out)) hg hat); have n2_ := Aside0.mk (hb); have n3_ := Aside0.mk (ho); clear HO_5; clear HO349; clear HB; have HO_5 := n0_; have HO349 := n1_; have HB := n2_; have HO352 := n3_; clear n0_ n1_ n2_ n3_; clear ho hb hg hat))
        go_loopg [11, 12] k2 (fun kq v11 v12 w' => ∃ (x11_3 : List Int) (x12_3 : Int), v12 = .int .i64 x12_3 ∧ Aside0 (aircheckref02_block.l2 kq l0 x5_2 t347 x11_3 x12_3 = some r) ∧ Aside0 (kq ≤ k2) ∧ Aside0 (Kd.R (Kd.int .u32) 77 w' w.heap.size (fun k_ => some k_ ≠ (v348 : Value).ownBlock ∧ some k_ ≠ (v11 : Value).ownBlock) u5 x5_2) ∧ Aside0 (Kd.R (Kd.int .u32) 77 w' w.heap.size (fun k_ => some k_ ≠ (u5 : Value).ownBlock ∧ some k_ ≠ (v11 : Value).ownBlock) v348 t347) ∧ Aside0 (Kd.R (Kd.int .u32) 77 w' w.heap.size (fun k_ => some k_ ≠ (u5 : Value).ownBlock ∧ some k_ ≠ (v348 : Value).ownBlock) v11 x11_3) ∧ Aside0 (Below w.heap.size w w'))
        case atStart => exact ⟨(y350), (0), (by first | rfl | (simp; done) | (simp [*]; done)), H', ⟨Nat.le_refl _⟩, ⟨by (with_reducible repeat (first | apply Kd.R_alloc | apply Kd.R_drewN | apply Kd.R_drew)); exact Kd.R_mono HO_5.out (fun _ hk => by first | exact ⟨hk.1.2, hk.2⟩ | exact ⟨hk.2, hk.1⟩ | exact hk | exact ⟨hk.1.1, hk.2⟩ | exact ⟨hk.2, hk.1.1⟩ | exact ⟨hk.2, hk.1.2⟩ | exact ⟨hk.1.1, hk.1.2⟩ | exact ⟨hk.1.2, hk.1.1⟩)⟩, ⟨by (with_reducible repeat (first | apply Kd.R_alloc | apply Kd.R_drewN | apply Kd.R_drew)); exact Kd.R_mono HO349.out (fun _ hk => by first | exact ⟨hk.1.2, hk.2⟩ | exact ⟨hk.2, hk.1⟩ | exact hk | exact ⟨hk.1.1, hk.2⟩ | exact ⟨hk.2, hk.1.1⟩ | exact ⟨hk.2, hk.1.2⟩ | exact ⟨hk.1.1, hk.1.2⟩ | exact ⟨hk.1.2, hk.1.1⟩)⟩, ⟨by (with_reducible repeat (first | apply Kd.R_alloc | apply Kd.R_drewN | apply Kd.R_drew)); exact HO352.out⟩, ⟨by repeat (first | (with_reducible first | exact HB.out | apply below_alloc | apply pw_below_drewN | apply below_drew1) | exact HB.out)⟩⟩
        case round =>
         clear H'
         try clear c1
         try clear c2
         try clear p2
         try clear c3
         try clear p3
         try clear q3
         try clear hx3
         try clear c4
         try clear c5
         try clear p6
         try clear c19
         try clear c19b0
         try clear c21
         try clear c22
         try clear c26
         try clear c27
         try clear c31
         try clear c32
         try clear p33
         try clear q33
         try clear hx33
         try clear c34
         try clear p34
         try clear q34
         try clear hx34
         try clear c35
         try clear c36
         try clear c43
         try clear hx337_0
         try clear hx339_0
         try clear hx341_0
         try clear hx342_0
         try clear hx343_0
         try clear p337
         try clear p339
         try clear p341
         try clear p342
         try clear p343
         try clear q337
         try clear q339
         try clear q341
         try clear q342
         try clear q343
         obtain ⟨x11_3, x12_3, rfl, HA, HK3, HO_5, HO_10, HO_11, HB⟩ := hrel
         cases gk with
         | zero => exact absurd HA.out (by simp [aircheckref02_block.l2])
         | succ k3 =>
          have H := HA.out
          clear HA
          simp only [aircheckref02_block.l2] at H
          by_cases c46 : x12_3 < 64
          ·rw [if_pos c46] at H
           have c46b0 : decide (x12_3 < 64) = true := decide_eq_true c46
           clear c46
           by_cases c47 : 0 < (x11_3.length : Int)
           ·rw [if_pos c47] at H
            have c47b0 : decide (0 < (x11_3.length : Int)) = true := decide_eq_true c47
            have c47b1 : decide (0 < x11_3.length) = true := decide_eq_true (by omega)
            clear c47
            by_cases c48 : 4 < (x11_3.length : Int)
            ·rw [if_pos c48] at H
             have c48b0 : decide (4 < (x11_3.length : Int)) = true := decide_eq_true c48
             have c48b1 : decide (4 < x11_3.length) = true := decide_eq_true (by omega)
             clear c48
             by_cases c49 : 7 < (x11_3.length : Int)
             ·rw [if_pos c49] at H
              have c49b0 : decide (7 < (x11_3.length : Int)) = true := decide_eq_true c49
              have c49b1 : decide (7 < x11_3.length) = true := decide_eq_true (by omega)
              clear c49
              replace H := Option.bind_eq_some_iff.mp H
              obtain ⟨t356, A500, H⟩ := H
              replace H : ((aircheckref02_rotated.f (rd x11_3 4) 11).bind fun t357 => ((aircheckref02_rotated.f (rd x11_3 4) 25).bind fun t358 => (if 5 < (x11_3.length : Int) then (if 6 < (x11_3.length : Int) then (if 0 ≤ x12_3 then (if x12_3 < (t347.length : Int) then (if x12_3 < (x5_2.length : Int) then ((aircheckref02_rotated.f (rd x11_3 0) 2).bind fun t363 => ((aircheckref02_rotated.f (rd x11_3 0) 13).bind fun t364 => ((aircheckref02_rotated.f (rd x11_3 0) 22).bind fun t365 => (if 1 < (x11_3.length : Int) then (if 2 < (x11_3.length : Int) then (if 3 < (x11_3.length : Int) then (aircheckref02_block.l2 k3 l0 x5_2 t347 (([((((((((((rd x11_3 7) + (Go.bits .xor .u32 (Go.bits .xor .u32 t356 t357) t358)) % 4294967296) + (Go.bits .xor .u32 (Go.bits .and .u32 (rd x11_3 4) (rd x11_3 5)) (Go.bits .and .u32 (Go.bits .xor .u32 4294967295 (rd x11_3 4)) (rd x11_3 6)))) % 4294967296) + (rd t347 x12_3)) % 4294967296) + (rd x5_2 x12_3)) % 4294967296) + (((Go.bits .xor .u32 (Go.bits .xor .u32 t363 t364) t365) + (Go.bits .xor .u32 (Go.bits .xor .u32 (Go.bits .and .u32 (rd x11_3 0) (rd x11_3 1)) (Go.bits .and .u32 (rd x11_3 0) (rd x11_3 2))) (Go.bits .and .u32 (rd x11_3 1) (rd x11_3 2)))) % 4294967296)) % 4294967296, rd x11_3 0, rd x11_3 1, rd x11_3 2, ((rd x11_3 3) + (((((((((rd x11_3 7) + (Go.bits .xor .u32 (Go.bits .xor .u32 t356 t357) t358)) % 4294967296) + (Go.bits .xor .u32 (Go.bits .and .u32 (rd x11_3 4) (rd x11_3 5)) (Go.bits .and .u32 (Go.bits .xor .u32 4294967295 (rd x11_3 4)) (rd x11_3 6)))) % 4294967296) + (rd t347 x12_3)) % 4294967296) + (rd x5_2 x12_3)) % 4294967296)) % 4294967296, rd x11_3 4, rd x11_3 5, rd x11_3 6] : List Int)) (wrap64 (x12_3 + 1))) else (none)) else (none)) else (none))))) else (none)) else (none)) else (none)) else (none)) else (none)))) = some r := H
              have A50 := Aside0.mk A500
              clear A500
              replace H := Option.bind_eq_some_iff.mp H
              obtain ⟨t357, A510, H⟩ := H
              replace H : ((aircheckref02_rotated.f (rd x11_3 4) 25).bind fun t358 => (if 5 < (x11_3.length : Int) then (if 6 < (x11_3.length : Int) then (if 0 ≤ x12_3 then (if x12_3 < (t347.length : Int) then (if x12_3 < (x5_2.length : Int) then ((aircheckref02_rotated.f (rd x11_3 0) 2).bind fun t363 => ((aircheckref02_rotated.f (rd x11_3 0) 13).bind fun t364 => ((aircheckref02_rotated.f (rd x11_3 0) 22).bind fun t365 => (if 1 < (x11_3.length : Int) then (if 2 < (x11_3.length : Int) then (if 3 < (x11_3.length : Int) then (aircheckref02_block.l2 k3 l0 x5_2 t347 (([((((((((((rd x11_3 7) + (Go.bits .xor .u32 (Go.bits .xor .u32 t356 t357) t358)) % 4294967296) + (Go.bits .xor .u32 (Go.bits .and .u32 (rd x11_3 4) (rd x11_3 5)) (Go.bits .and .u32 (Go.bits .xor .u32 4294967295 (rd x11_3 4)) (rd x11_3 6)))) % 4294967296) + (rd t347 x12_3)) % 4294967296) + (rd x5_2 x12_3)) % 4294967296) + (((Go.bits .xor .u32 (Go.bits .xor .u32 t363 t364) t365) + (Go.bits .xor .u32 (Go.bits .xor .u32 (Go.bits .and .u32 (rd x11_3 0) (rd x11_3 1)) (Go.bits .and .u32 (rd x11_3 0) (rd x11_3 2))) (Go.bits .and .u32 (rd x11_3 1) (rd x11_3 2)))) % 4294967296)) % 4294967296, rd x11_3 0, rd x11_3 1, rd x11_3 2, ((rd x11_3 3) + (((((((((rd x11_3 7) + (Go.bits .xor .u32 (Go.bits .xor .u32 t356 t357) t358)) % 4294967296) + (Go.bits .xor .u32 (Go.bits .and .u32 (rd x11_3 4) (rd x11_3 5)) (Go.bits .and .u32 (Go.bits .xor .u32 4294967295 (rd x11_3 4)) (rd x11_3 6)))) % 4294967296) + (rd t347 x12_3)) % 4294967296) + (rd x5_2 x12_3)) % 4294967296)) % 4294967296, rd x11_3 4, rd x11_3 5, rd x11_3 6] : List Int)) (wrap64 (x12_3 + 1))) else (none)) else (none)) else (none))))) else (none)) else (none)) else (none)) else (none)) else (none))) = some r := H
              have A51 := Aside0.mk A510
              clear A510
              replace H := Option.bind_eq_some_iff.mp H
              obtain ⟨t358, A520, H⟩ := H
              replace H : (if 5 < (x11_3.length : Int) then (if 6 < (x11_3.length : Int) then (if 0 ≤ x12_3 then (if x12_3 < (t347.length : Int) then (if x12_3 < (x5_2.length : Int) then ((aircheckref02_rotated.f (rd x11_3 0) 2).bind fun t363 => ((aircheckref02_rotated.f (rd x11_3 0) 13).bind fun t364 => ((aircheckref02_rotated.f (rd x11_3 0) 22).bind fun t365 => (if 1 < (x11_3.length : Int) then (if 2 < (x11_3.length : Int) then (if 3 < (x11_3.length : Int) then (aircheckref02_block.l2 k3 l0 x5_2 t347 (([((((((((((rd x11_3 7) + (Go.bits .xor .u32 (Go.bits .xor .u32 t356 t357) t358)) % 4294967296) + (Go.bits .xor .u32 (Go.bits .and .u32 (rd x11_3 4) (rd x11_3 5)) (Go.bits .and .u32 (Go.bits .xor .u32 4294967295 (rd x11_3 4)) (rd x11_3 6)))) % 4294967296) + (rd t347 x12_3)) % 4294967296) + (rd x5_2 x12_3)) % 4294967296) + (((Go.bits .xor .u32 (Go.bits .xor .u32 t363 t364) t365) + (Go.bits .xor .u32 (Go.bits .xor .u32 (Go.bits .and .u32 (rd x11_3 0) (rd x11_3 1)) (Go.bits .and .u32 (rd x11_3 0) (rd x11_3 2))) (Go.bits .and .u32 (rd x11_3 1) (rd x11_3 2)))) % 4294967296)) % 4294967296, rd x11_3 0, rd x11_3 1, rd x11_3 2, ((rd x11_3 3) + (((((((((rd x11_3 7) + (Go.bits .xor .u32 (Go.bits .xor .u32 t356 t357) t358)) % 4294967296) + (Go.bits .xor .u32 (Go.bits .and .u32 (rd x11_3 4) (rd x11_3 5)) (Go.bits .and .u32 (Go.bits .xor .u32 4294967295 (rd x11_3 4)) (rd x11_3 6)))) % 4294967296) + (rd t347 x12_3)) % 4294967296) + (rd x5_2 x12_3)) % 4294967296)) % 4294967296, rd x11_3 4, rd x11_3 5, rd x11_3 6] : List Int)) (wrap64 (x12_3 + 1))) else (none)) else (none)) else (none))))) else (none)) else (none)) else (none)) else (none)) else (none)) = some r := H
              have A52 := Aside0.mk A520
              clear A520
              by_cases c53 : 5 < (x11_3.length : Int)
              ·rw [if_pos c53] at H
               have c53b0 : decide (5 < (x11_3.length : Int)) = true := decide_eq_true c53
               have c53b1 : decide (5 < x11_3.length) = true := decide_eq_true (by omega)
               clear c53
               by_cases c54 : 6 < (x11_3.length : Int)
               ·rw [if_pos c54] at H
                have c54b0 : decide (6 < (x11_3.length : Int)) = true := decide_eq_true c54
                have c54b1 : decide (6 < x11_3.length) = true := decide_eq_true (by omega)
                clear c54
                by_cases c55 : 0 ≤ x12_3
                ·rw [if_pos c55] at H
                 have c55b0 : decide (0 ≤ x12_3) = true := decide_eq_true c55
                 clear c55
                 by_cases c56 : x12_3 < (t347.length : Int)
                 ·rw [if_pos c56] at H
                  have c56b0 : decide (x12_3 < (t347.length : Int)) = true := decide_eq_true c56
                  clear c56
                  by_cases c57 : x12_3 < (x5_2.length : Int)
                  ·rw [if_pos c57] at H
                   have c57b0 : decide (x12_3 < (x5_2.length : Int)) = true := decide_eq_true c57
                   clear c57
                   replace H := Option.bind_eq_some_iff.mp H
                   obtain ⟨t363, A580, H⟩ := H
                   replace H : ((aircheckref02_rotated.f (rd x11_3 0) 13).bind fun t364 => ((aircheckref02_rotated.f (rd x11_3 0) 22).bind fun t365 => (if 1 < (x11_3.length : Int) then (if 2 < (x11_3.length : Int) then (if 3 < (x11_3.length : Int) then (aircheckref02_block.l2 k3 l0 x5_2 t347 (([((((((((((rd x11_3 7) + (Go.bits .xor .u32 (Go.bits .xor .u32 t356 t357) t358)) % 4294967296) + (Go.bits .xor .u32 (Go.bits .and .u32 (rd x11_3 4) (rd x11_3 5)) (Go.bits .and .u32 (Go.bits .xor .u32 4294967295 (rd x11_3 4)) (rd x11_3 6)))) % 4294967296) + (rd t347 x12_3)) % 4294967296) + (rd x5_2 x12_3)) % 4294967296) + (((Go.bits .xor .u32 (Go.bits .xor .u32 t363 t364) t365) + (Go.bits .xor .u32 (Go.bits .xor .u32 (Go.bits .and .u32 (rd x11_3 0) (rd x11_3 1)) (Go.bits .and .u32 (rd x11_3 0) (rd x11_3 2))) (Go.bits .and .u32 (rd x11_3 1) (rd x11_3 2)))) % 4294967296)) % 4294967296, rd x11_3 0, rd x11_3 1, rd x11_3 2, ((rd x11_3 3) + (((((((((rd x11_3 7) + (Go.bits .xor .u32 (Go.bits .xor .u32 t356 t357) t358)) % 4294967296) + (Go.bits .xor .u32 (Go.bits .and .u32 (rd x11_3 4) (rd x11_3 5)) (Go.bits .and .u32 (Go.bits .xor .u32 4294967295 (rd x11_3 4)) (rd x11_3 6)))) % 4294967296) + (rd t347 x12_3)) % 4294967296) + (rd x5_2 x12_3)) % 4294967296)) % 4294967296, rd x11_3 4, rd x11_3 5, rd x11_3 6] : List Int)) (wrap64 (x12_3 + 1))) else (none)) else (none)) else (none)))) = some r := H
                   have A58 := Aside0.mk A580
                   clear A580
                   replace H := Option.bind_eq_some_iff.mp H
                   obtain ⟨t364, A590, H⟩ := H
                   replace H : ((aircheckref02_rotated.f (rd x11_3 0) 22).bind fun t365 => (if 1 < (x11_3.length : Int) then (if 2 < (x11_3.length : Int) then (if 3 < (x11_3.length : Int) then (aircheckref02_block.l2 k3 l0 x5_2 t347 (([((((((((((rd x11_3 7) + (Go.bits .xor .u32 (Go.bits .xor .u32 t356 t357) t358)) % 4294967296) + (Go.bits .xor .u32 (Go.bits .and .u32 (rd x11_3 4) (rd x11_3 5)) (Go.bits .and .u32 (Go.bits .xor .u32 4294967295 (rd x11_3 4)) (rd x11_3 6)))) % 4294967296) + (rd t347 x12_3)) % 4294967296) + (rd x5_2 x12_3)) % 4294967296) + (((Go.bits .xor .u32 (Go.bits .xor .u32 t363 t364) t365) + (Go.bits .xor .u32 (Go.bits .xor .u32 (Go.bits .and .u32 (rd x11_3 0) (rd x11_3 1)) (Go.bits .and .u32 (rd x11_3 0) (rd x11_3 2))) (Go.bits .and .u32 (rd x11_3 1) (rd x11_3 2)))) % 4294967296)) % 4294967296, rd x11_3 0, rd x11_3 1, rd x11_3 2, ((rd x11_3 3) + (((((((((rd x11_3 7) + (Go.bits .xor .u32 (Go.bits .xor .u32 t356 t357) t358)) % 4294967296) + (Go.bits .xor .u32 (Go.bits .and .u32 (rd x11_3 4) (rd x11_3 5)) (Go.bits .and .u32 (Go.bits .xor .u32 4294967295 (rd x11_3 4)) (rd x11_3 6)))) % 4294967296) + (rd t347 x12_3)) % 4294967296) + (rd x5_2 x12_3)) % 4294967296)) % 4294967296, rd x11_3 4, rd x11_3 5, rd x11_3 6] : List Int)) (wrap64 (x12_3 + 1))) else (none)) else (none)) else (none))) = some r := H
                   have A59 := Aside0.mk A590
                   clear A590
                   replace H := Option.bind_eq_some_iff.mp H
                   obtain ⟨t365, A600, H⟩ := H
                   replace H : (if 1 < (x11_3.length : Int) then (if 2 < (x11_3.length : Int) then (if 3 < (x11_3.length : Int) then (aircheckref02_block.l2 k3 l0 x5_2 t347 (([((((((((((rd x11_3 7) + (Go.bits .xor .u32 (Go.bits .xor .u32 t356 t357) t358)) % 4294967296) + (Go.bits .xor .u32 (Go.bits .and .u32 (rd x11_3 4) (rd x11_3 5)) (Go.bits .and .u32 (Go.bits .xor .u32 4294967295 (rd x11_3 4)) (rd x11_3 6)))) % 4294967296) + (rd t347 x12_3)) % 4294967296) + (rd x5_2 x12_3)) % 4294967296) + (((Go.bits .xor .u32 (Go.bits .xor .u32 t363 t364) t365) + (Go.bits .xor .u32 (Go.bits .xor .u32 (Go.bits .and .u32 (rd x11_3 0) (rd x11_3 1)) (Go.bits .and .u32 (rd x11_3 0) (rd x11_3 2))) (Go.bits .and .u32 (rd x11_3 1) (rd x11_3 2)))) % 4294967296)) % 4294967296, rd x11_3 0, rd x11_3 1, rd x11_3 2, ((rd x11_3 3) + (((((((((rd x11_3 7) + (Go.bits .xor .u32 (Go.bits .xor .u32 t356 t357) t358)) % 4294967296) + (Go.bits .xor .u32 (Go.bits .and .u32 (rd x11_3 4) (rd x11_3 5)) (Go.bits .and .u32 (Go.bits .xor .u32 4294967295 (rd x11_3 4)) (rd x11_3 6)))) % 4294967296) + (rd t347 x12_3)) % 4294967296) + (rd x5_2 x12_3)) % 4294967296)) % 4294967296, rd x11_3 4, rd x11_3 5, rd x11_3 6] : List Int)) (wrap64 (x12_3 + 1))) else (none)) else (none)) else (none)) = some r := H
                   have A60 := Aside0.mk A600
                   clear A600
                   by_cases c61 : 1 < (x11_3.length : Int)
                   ·rw [if_pos c61] at H
                    have c61b0 : decide (1 < (x11_3.length : Int)) = true := decide_eq_true c61
                    have c61b1 : decide (1 < x11_3.length) = true := decide_eq_true (by omega)
                    clear c61
                    by_cases c62 : 2 < (x11_3.length : Int)
                    ·rw [if_pos c62] at H
                     have c62b0 : decide (2 < (x11_3.length : Int)) = true := decide_eq_true c62
                     have c62b1 : decide (2 < x11_3.length) = true := decide_eq_true (by omega)
                     clear c62
                     by_cases c63 : 3 < (x11_3.length : Int)
                     ·rw [if_pos c63] at H
                      have c63b0 : decide (3 < (x11_3.length : Int)) = true := decide_eq_true c63
                      have c63b1 : decide (3 < x11_3.length) = true := decide_eq_true (by omega)
                      clear c63
                      obtain ⟨y375, hy375⟩ : ∃ y_ : List Int, y_ = (([((((((((((rd x11_3 7) + (Go.bits .xor .u32 (Go.bits .xor .u32 t356 t357) t358)) % 4294967296) + (Go.bits .xor .u32 (Go.bits .and .u32 (rd x11_3 4) (rd x11_3 5)) (Go.bits .and .u32 (Go.bits .xor .u32 4294967295 (rd x11_3 4)) (rd x11_3 6)))) % 4294967296) + (rd t347 x12_3)) % 4294967296) + (rd x5_2 x12_3)) % 4294967296) + (((Go.bits .xor .u32 (Go.bits .xor .u32 t363 t364) t365) + (Go.bits .xor .u32 (Go.bits .xor .u32 (Go.bits .and .u32 (rd x11_3 0) (rd x11_3 1)) (Go.bits .and .u32 (rd x11_3 0) (rd x11_3 2))) (Go.bits .and .u32 (rd x11_3 1) (rd x11_3 2)))) % 4294967296)) % 4294967296, rd x11_3 0, rd x11_3 1, rd x11_3 2, ((rd x11_3 3) + (((((((((rd x11_3 7) + (Go.bits .xor .u32 (Go.bits .xor .u32 t356 t357) t358)) % 4294967296) + (Go.bits .xor .u32 (Go.bits .and .u32 (rd x11_3 4) (rd x11_3 5)) (Go.bits .and .u32 (Go.bits .xor .u32 4294967295 (rd x11_3 4)) (rd x11_3 6)))) % 4294967296) + (rd t347 x12_3)) % 4294967296) + (rd x5_2 x12_3)) % 4294967296)) % 4294967296, rd x11_3 4, rd x11_3 5, rd x11_3 6] : List Int)) := ⟨_, rfl⟩
                      replace H : (aircheckref02_block.l2 k3 l0 x5_2 t347 y375 (wrap64 (x12_3 + 1))) = some r := by first | (rw [hy375]; with_reducible exact H) | (have H2_ := (Option.bind_some _ _).symm.trans H; rw [hy375]; with_reducible exact H2_) | (have H2_ := (Option.bind_some _ _).symm.trans H; with_reducible exact H2_) | with_reducible exact H | (rw [hy375]; exact H) | exact H
                      have Ny375 := Aside0.mk hy375
                      clear hy375
                      have H' := Aside0.mk H
                      clear H
                      obtain ⟨Ao64, co64, eo64⟩ := Kd.R_slice HO_11.out
                      subst eo64
                      have p353 : 0 ≤ (0 : Int) := (by omega)
                      have q353 : 0 < (x11_3.length : Int) := of_decide_eq_true (by first | (with_reducible assumption) | assumption)
                      obtain ⟨ad353, e353, hx353_0⟩ := Kd.at_int (Kd.R_reads' HO_11.out).2.2 0 p353 q353
                      cases e353
                      have qi353 : (0 < x11_3.length) = True := eq_true (by omega)
                      (try rw [show ((0 : Int)).toNat = 0 from rfl] at hx353_0)
                      (try rw [Addr.add_zero'] at hx353_0)
                      replace p353 := eq_true p353
                      replace q353 := eq_true q353
                      have p354 : 0 ≤ (4 : Int) := (by omega)
                      have q354 : 4 < (x11_3.length : Int) := of_decide_eq_true (by first | (with_reducible assumption) | assumption)
                      obtain ⟨ad354, e354, hx354_0⟩ := Kd.at_int (Kd.R_reads' HO_11.out).2.2 4 p354 q354
                      obtain rfl : ad353 = ad354 := (by injection e354)
                      (try simp only [show (4 : Int).toNat = 4 from rfl, Nat.reduceMul, Nat.reduceEqDiff, Go.Addr.add, ↓reduceIte] at hx354_0)
                      have qi354 : (4 < x11_3.length) = True := eq_true (by omega)
                      (try rw [show ((4 : Int)).toNat = 4 from rfl] at hx354_0)
                      replace p354 := eq_true p354
                      replace q354 := eq_true q354
                      try go_wp2
                      have n0_ := Aside0.mk (Kd.R_drew HO_5.out)
                      have n1_ := Aside0.mk (Kd.R_drew HO_10.out)
                      have n2_ := Aside0.mk (Kd.R_drew HO_11.out)
                      have n3_ := Aside0.mk (below_drew1 HB.out)
                      clear HO_5
                      clear HO_10
                      clear HO_11
                      clear HB
                      have HO_5 := n0_
                      have HO_10 := n1_
                      have HO_11 := n2_
                      have HB := n3_
                      clear n0_ n1_ n2_ n3_
                      have p355 : 0 ≤ (7 : Int) := (by omega)
                      have q355 : 7 < (x11_3.length : Int) := of_decide_eq_true (by first | (with_reducible assumption) | assumption)
                      obtain ⟨ad355, e355, hx355_0⟩ := Kd.at_int (Kd.R_reads' HO_11.out).2.2 7 p355 q355
                      obtain rfl : ad353 = ad355 := (by injection e355)
                      (try simp only [show (7 : Int).toNat = 7 from rfl, Nat.reduceMul, Nat.reduceEqDiff, Go.Addr.add, ↓reduceIte] at hx355_0)
                      have qi355 : (7 < x11_3.length) = True := eq_true (by omega)
                      (try rw [show ((7 : Int)).toNat = 7 from rfl] at hx355_0)
                      replace p355 := eq_true p355
                      replace q355 := eq_true q355
                      have p359 : 0 ≤ (5 : Int) := (by omega)
                      have q359 : 5 < (x11_3.length : Int) := of_decide_eq_true (by first | (with_reducible assumption) | assumption)
                      obtain ⟨ad359, e359, hx359_0⟩ := Kd.at_int (Kd.R_reads' HO_11.out).2.2 5 p359 q359
                      obtain rfl : ad353 = ad359 := (by injection e359)
                      (try simp only [show (5 : Int).toNat = 5 from rfl, Nat.reduceMul, Nat.reduceEqDiff, Go.Addr.add, ↓reduceIte] at hx359_0)
                      have qi359 : (5 < x11_3.length) = True := eq_true (by omega)
                      (try rw [show ((5 : Int)).toNat = 5 from rfl] at hx359_0)
                      replace p359 := eq_true p359
                      replace q359 := eq_true q359
                      have p360 : 0 ≤ (6 : Int) := (by omega)
                      have q360 : 6 < (x11_3.length : Int) := of_decide_eq_true (by first | (with_reducible assumption) | assumption)
                      obtain ⟨ad360, e360, hx360_0⟩ := Kd.at_int (Kd.R_reads' HO_11.out).2.2 6 p360 q360
                      obtain rfl : ad353 = ad360 := (by injection e360)
                      (try simp only [show (6 : Int).toNat = 6 from rfl, Nat.reduceMul, Nat.reduceEqDiff, Go.Addr.add, ↓reduceIte] at hx360_0)
                      have qi360 : (6 < x11_3.length) = True := eq_true (by omega)
                      (try rw [show ((6 : Int)).toNat = 6 from rfl] at hx360_0)
                      replace p360 := eq_true p360
                      replace q360 := eq_true q360
                      obtain ⟨Ao66, co66, eo66⟩ := Kd.R_slice HO_10.out
                      (first | subst eo66 | (injection eo66 with f1_ f2_ f3_; have f4_ := f1_.symm; have f5_ := f3_.symm; clear f1_ f2_ f3_; subst f4_; subst f5_))
                      have p361 : 0 ≤ (x12_3 : Int) := of_decide_eq_true (by first | (with_reducible assumption) | assumption)
                      have q361 : x12_3 < (t347.length : Int) := of_decide_eq_true (by first | (with_reducible assumption) | assumption)
                      obtain ⟨ad361, e361, hx361_0⟩ := Kd.at_int (Kd.R_reads' HO_10.out).2.2 x12_3 p361 q361
                      cases e361
                      replace p361 := eq_true p361
                      replace q361 := eq_true q361
                      obtain ⟨Ao67, co67, eo67⟩ := Kd.R_slice HO_5.out
                      (first | subst eo67 | (injection eo67 with f1_ f2_ f3_; have f4_ := f1_.symm; have f5_ := f3_.symm; clear f1_ f2_ f3_; subst f4_; subst f5_))
                      have p362 : 0 ≤ (x12_3 : Int) := of_decide_eq_true (by first | (with_reducible assumption) | assumption)
                      have q362 : x12_3 < (x5_2.length : Int) := of_decide_eq_true (by first | (with_reducible assumption) | assumption)
                      obtain ⟨ad362, e362, hx362_0⟩ := Kd.at_int (Kd.R_reads' HO_5.out).2.2 x12_3 p362 q362
                      cases e362
                      replace p362 := eq_true p362
                      replace q362 := eq_true q362
                      refine start_ (n := 36) (S := fun w' => w'.cell? ⟨ad353.block, ad353.off + 7, none⟩ = some (.int .u32 (rd x11_3 7)) ∧ w'.cell? ⟨ad353.block, ad353.off + 5, none⟩ = some (.int .u32 (rd x11_3 5)) ∧ w'.cell? ⟨ad353.block, ad353.off + 6, none⟩ = some (.int .u32 (rd x11_3 6)) ∧ w'.cell? (ad361.add (x12_3).toNat) = some (.int .u32 (rd t347 x12_3)) ∧ w'.cell? (ad362.add (x12_3).toNat) = some (.int .u32 (rd x5_2 x12_3))) (ds := []) (bb 36 0) (by kernel_rfl) rfl rfl ⟨hx355_0, hx359_0, hx360_0, hx361_0, hx362_0⟩ (fun hHeld => ?_); refine with_tabW aircheckref02_block.tab20 aircheckref02_block.bits20 (fun HT_ HW_ => ?_)
                      generalize wr.drew = w65 at HO_5 HO_10 HO_11 HB hx355_0 hx359_0 hx360_0 hx361_0 hx362_0 hHeld ⊢
                      refine pj_ (v := ?_) (a' := ?_) 0 (some 135) (bb 36 1) rfl rfl HT_ (by kernel_rfl) (fun _ _ _ h => h) (by rfl) ?_ ?_ ?_
                      rotate_left; (intro w'; go_simp; with_reducible rfl); rotate_left; (simp only [Act.put, z1, z2, z3, i64_w, i32_w]; rfl)
                      refine pj_ (v := ?_) (a' := ?_) 1 (some 136) (bb 36 3) rfl rfl HT_ (by kernel_rfl) (fun _ _ _ h => h) (by rfl) ?_ ?_ ?_
                      rotate_left; (intro w'; go_simp; with_reducible rfl); rotate_left; (simp only [Act.put, z1, z2, z3, i64_w, i32_w]; rfl)
                      refine pj_ (v := ?_) (a' := ?_) 3 (some 138) (bb 36 11) rfl rfl HT_ (by kernel_rfl) (fun _ _ _ h => h) (by rfl) ?_ ?_ ?_
                      rotate_left; (intro w'; go_simp; with_reducible rfl); rotate_left; (simp only [Act.put, z1, z2, z3, i64_w, i32_w]; rfl)
                      refine pj_ (v := ?_) (a' := ?_) 5 (some 140) (bb 36 43) rfl rfl HT_ (by kernel_rfl) (fun _ _ _ h => h) (by rfl) ?_ ?_ ?_
                      rotate_left; (intro w'; go_simp; with_reducible rfl); rotate_left; (simp only [Act.put, z1, z2, z3, i64_w, i32_w]; rfl)
                      refine pj_ (v := ?_) (a' := ?_) 8 (some 143) (bb 36 299) rfl rfl HT_ (by kernel_rfl) (fun _ _ _ h => h) (by rfl) ?_ ?_ ?_
                      rotate_left; (intro w'; go_simp; with_reducible rfl); rotate_left; (simp only [Act.put, z1, z2, z3, i64_w, i32_w]; rfl)
                      refine pj_ (v := ?_) (a' := ?_) 12 (some 147) (bb 36 4395) rfl rfl HT_ (by kernel_rfl) (fun _ _ _ h => h) (by rfl) ?_ ?_ ?_
                      rotate_left; (intro w'; go_simp; with_reducible rfl); rotate_left; (simp only [Act.put, z1, z2, z3, i64_w, i32_w]; rfl)
                      refine pj_ (v := ?_) (a' := ?_) 13 (some 148) (bb 36 12587) rfl rfl HT_ (by kernel_rfl) (fun _ _ _ h => h) (by rfl) ?_ ?_ ?_
                      rotate_left; (intro w'; go_simp; with_reducible rfl); rotate_left; (simp only [Act.put, z1, z2, z3, i64_w, i32_w]; rfl)
                      refine pj_ (v := ?_) (a' := ?_) 14 (some 149) (bb 36 28971) rfl rfl HT_ (by kernel_rfl) (fun _ _ _ h => h) (by rfl) ?_ ?_ ?_
                      rotate_left; (intro w'; go_simp; with_reducible rfl); rotate_left; (simp only [Act.put, z1, z2, z3, i64_w, i32_w]; rfl)
                      refine pj_ (v := ?_) (a' := ?_) 17 (some 152) (bb 36 160043) rfl rfl HT_ (by kernel_rfl) (fun _ _ _ h => h) (by rfl) ?_ ?_ ?_
                      rotate_left; (intro w'; go_simp; with_reducible rfl); rotate_left; (simp only [Act.put, z1, z2, z3, i64_w, i32_w]; rfl)
                      refine pj_ (v := ?_) (a' := ?_) 18 (some 153) (bb 36 422187) rfl rfl HT_ (by kernel_rfl) (fun _ _ _ h => h) (by rfl) ?_ ?_ ?_
                      rotate_left; (intro w'; go_simp; with_reducible rfl); rotate_left; (simp only [Act.put, z1, z2, z3, i64_w, i32_w]; rfl)
                      refine pj_ (v := ?_) (a' := ?_) 19 (some 154) (bb 36 946475) rfl rfl HT_ (by kernel_rfl) (fun _ _ _ h => h) (by rfl) ?_ ?_ ?_
                      rotate_left; (intro w'; go_simp; with_reducible rfl); rotate_left; (simp only [Act.put, z1, z2, z3, i64_w, i32_w]; rfl)
                      refine pj_ (v := ?_) (a' := ?_) 20 (some 155) (bb 36 1995051) rfl rfl HT_ (by kernel_rfl) (fun _ _ _ h => h) (by rfl) ?_ ?_ ?_
                      rotate_left; (intro w'; go_simp; with_reducible rfl); rotate_left; (simp only [Act.put, z1, z2, z3, i64_w, i32_w]; rfl)
                      refine pj_ (v := ?_) (a' := ?_) 25 (some 160) (bb 36 35549483) rfl rfl HT_ (by kernel_rfl) (fun _ _ _ h => h) (by rfl) ?_ ?_ ?_
                      rotate_left; (intro w'; go_simp; with_reducible rfl); rotate_left; (simp only [Act.put, z1, z2, z3, i64_w, i32_w]; rfl)
                      refine pj_ (v := ?_) (a' := ?_) 26 (some 161) (bb 36 102658347) rfl rfl HT_ (by kernel_rfl) (fun _ _ _ h => h) (by rfl) ?_ ?_ ?_
                      rotate_left; (intro w'; go_simp; with_reducible rfl); rotate_left; (simp only [Act.put, z1, z2, z3, i64_w, i32_w]; rfl)
                      refine pj_ (v := ?_) (a' := ?_) 27 (some 162) (bb 36 236876075) rfl rfl HT_ (by kernel_rfl) (fun _ _ _ h => h) (by rfl) ?_ ?_ ?_
                      rotate_left; (intro w'; go_simp; with_reducible rfl); rotate_left; (simp only [Act.put, z1, z2, z3, i64_w, i32_w]; rfl)
                      refine pj_ (v := ?_) (a' := ?_) 30 (some 165) (bb 36 1310617899) rfl rfl HT_ (by kernel_rfl) (fun _ _ _ h => h) (by rfl) ?_ ?_ ?_
                      rotate_left; (intro w'; go_simp; with_reducible rfl); rotate_left; (simp only [Act.put, z1, z2, z3, i64_w, i32_w]; rfl)
                      refine pj_ (v := ?_) (a' := ?_) 31 (some 166) (bb 36 3458101547) rfl rfl HT_ (by kernel_rfl) (fun _ _ _ h => h) (by rfl) ?_ ?_ ?_
                      rotate_left; (intro w'; go_simp; with_reducible rfl); rotate_left; (simp only [Act.put, z1, z2, z3, i64_w, i32_w]; rfl)
                      refine pj_ (v := ?_) (a' := ?_) 32 (some 167) (bb 36 7753068843) rfl rfl HT_ (by kernel_rfl) (fun _ _ _ h => h) (by rfl) ?_ ?_ ?_
                      rotate_left; (intro w'; go_simp; with_reducible rfl); rotate_left; (simp only [Act.put, z1, z2, z3, i64_w, i32_w]; rfl)
                      refine tj_ (v := ?_) (a' := ?_) 2 (some 137) (bb 36 7753068847) rfl rfl HT_ HW_ (by kernel_rfl) (fun _ _ _ h => h) (by rfl) hHeld ?_ ?_ ?_
                      rotate_left; (rintro w' ⟨s0, s1, s2, s3, s4⟩; go_simp; with_reducible rfl); rotate_left; (simp only [Act.put, z1, z2, z3, i64_w, i32_w]; rfl)
                      refine tj_ (v := ?_) (a' := ?_) 15 (some 150) (bb 36 7753101615) rfl rfl HT_ HW_ (by kernel_rfl) (fun _ _ _ h => h) (by rfl) hHeld ?_ ?_ ?_
                      rotate_left; (rintro w' ⟨s0, s1, s2, s3, s4⟩; go_simp; with_reducible rfl); rotate_left; (simp only [Act.put, z1, z2, z3, i64_w, i32_w]; rfl)
                      refine pj_ (v := ?_) (a' := ?_) 16 (some 151) (bb 36 7753167151) rfl rfl HT_ (by kernel_rfl) (fun _ _ _ h => h) (by rfl) ?_ ?_ ?_
                      rotate_left; (intro w'; go_simp; with_reducible rfl); rotate_left; (simp only [Act.put, z1, z2, z3, i64_w, i32_w]; rfl)
                      refine tj_ (v := ?_) (a' := ?_) 21 (some 156) (bb 36 7755264303) rfl rfl HT_ HW_ (by kernel_rfl) (fun _ _ _ h => h) (by rfl) hHeld ?_ ?_ ?_
                      rotate_left; (rintro w' ⟨s0, s1, s2, s3, s4⟩; go_simp; with_reducible rfl); rotate_left; (simp only [Act.put, z1, z2, z3, i64_w, i32_w]; rfl)
                      refine pj_ (v := ?_) (a' := ?_) 22 (some 157) (bb 36 7759458607) rfl rfl HT_ (by kernel_rfl) (fun _ _ _ h => h) (by rfl) ?_ ?_ ?_
                      rotate_left; (intro w'; go_simp; with_reducible rfl); rotate_left; (simp only [Act.put, z1, z2, z3, i64_w, i32_w]; rfl)
                      refine pj_ (v := ?_) (a' := ?_) 23 (some 158) (bb 36 7767847215) rfl rfl HT_ (by kernel_rfl) (fun _ _ _ h => h) (by rfl) ?_ ?_ ?_
                      rotate_left; (intro w'; go_simp; with_reducible rfl); rotate_left; (simp only [Act.put, z1, z2, z3, i64_w, i32_w]; rfl)
                      refine tj_ (v := ?_) (a' := ?_) 28 (some 163) (bb 36 8036282671) rfl rfl HT_ HW_ (by kernel_rfl) (fun _ _ _ h => h) (by rfl) hHeld ?_ ?_ ?_
                      rotate_left; (rintro w' ⟨s0, s1, s2, s3, s4⟩; go_simp; with_reducible rfl); rotate_left; (simp only [Act.put, z1, z2, z3, i64_w, i32_w]; rfl)
                      refine tj_ (v := ?_) (a' := ?_) 33 (some 168) (bb 36 16626217263) rfl rfl HT_ HW_ (by kernel_rfl) (fun _ _ _ h => h) (by rfl) hHeld ?_ ?_ ?_
                      rotate_left; (rintro w' ⟨s0, s1, s2, s3, s4⟩; go_simp; with_reducible rfl); rotate_left; (simp only [Act.put, z1, z2, z3, i64_w, i32_w]; rfl)
                      refine one_ (i := 4) (N := some 139) (bb 36 16626217279) rfl rfl (one_of HT_.out (by kernel_rfl)) (by decide) (fun K hK => ?_)
                      refine goes_ Tryd.func58 (by kernel_rfl) rfl #[.int .u32 (rd x11_3 4), .int .i64 6] (by rfl) rfl rfl (by (try simp only [List.map_toArray, List.map_cons, List.map_nil]); first | done | rfl | (simp only [List.length_drop, List.length_take]; rfl)) ?_
                      with_reducible refine (aircheckref02_rotated.calls (rd x11_3 4) 6 t356 _ A50.out).mono ?_
                      rintro e w' ⟨rfl, ⟨nd, rfl⟩⟩
                      refine ⟨_, rfl, ?_⟩
                      refine hK.out _ _ ⟨hHeld.1, hHeld.2.1, hHeld.2.2.1, hHeld.2.2.2.1, hHeld.2.2.2.2⟩ (fun hHeld => ?_)
                      clear hK K
                      refine norm_ (a' := ?_) ?_ ?_
                      rotate_left
                      ·show Act.put _ (some 139) _ = _
                       simp only [Act.put, z1, z2, z3, i64_w, i32_w]
                       rfl
                      refine one_ (i := 6) (N := some 141) (bb 36 16626217343) rfl rfl (one_of HT_.out (by kernel_rfl)) (by decide) (fun K hK => ?_)
                      refine goes_ Tryd.func58 (by kernel_rfl) rfl #[.int .u32 (rd x11_3 4), .int .i64 11] (by rfl) rfl rfl (by (try simp only [List.map_toArray, List.map_cons, List.map_nil]); first | done | rfl | (simp only [List.length_drop, List.length_take]; rfl)) ?_
                      with_reducible refine (aircheckref02_rotated.calls (rd x11_3 4) 11 t357 _ A51.out).mono ?_
                      rintro e w' ⟨rfl, ⟨nd, rfl⟩⟩
                      refine ⟨_, rfl, ?_⟩
                      refine hK.out _ _ ⟨hHeld.1, hHeld.2.1, hHeld.2.2.1, hHeld.2.2.2.1, hHeld.2.2.2.2⟩ (fun hHeld => ?_)
                      clear hK K
                      refine norm_ (a' := ?_) ?_ ?_
                      rotate_left
                      ·show Act.put _ (some 141) _ = _
                       simp only [Act.put, z1, z2, z3, i64_w, i32_w]
                       rfl
                      refine pj_ (v := ?_) (a' := ?_) 7 (some 142) (bb 36 16626217471) rfl rfl HT_ (by kernel_rfl) (fun _ _ _ h => h) (by rfl) ?_ ?_ ?_
                      rotate_left; (intro w'; go_simp; with_reducible rfl); rotate_left; (simp only [Act.put, z1, z2, z3, i64_w, i32_w]; rfl)
                      refine one_ (i := 9) (N := some 144) (bb 36 16626217983) rfl rfl (one_of HT_.out (by kernel_rfl)) (by decide) (fun K hK => ?_)
                      refine goes_ Tryd.func58 (by kernel_rfl) rfl #[.int .u32 (rd x11_3 4), .int .i64 25] (by rfl) rfl rfl (by (try simp only [List.map_toArray, List.map_cons, List.map_nil]); first | done | rfl | (simp only [List.length_drop, List.length_take]; rfl)) ?_
                      with_reducible refine (aircheckref02_rotated.calls (rd x11_3 4) 25 t358 _ A52.out).mono ?_
                      rintro e w' ⟨rfl, ⟨nd, rfl⟩⟩
                      refine ⟨_, rfl, ?_⟩
                      refine hK.out _ _ ⟨hHeld.1, hHeld.2.1, hHeld.2.2.1, hHeld.2.2.2.1, hHeld.2.2.2.2⟩ (fun hHeld => ?_)
                      clear hK K
                      refine norm_ (a' := ?_) ?_ ?_
                      rotate_left
                      ·show Act.put _ (some 144) _ = _
                       simp only [Act.put, z1, z2, z3, i64_w, i32_w]
                       rfl
                      refine pj_ (v := ?_) (a' := ?_) 10 (some 145) (bb 36 16626219007) rfl rfl HT_ (by kernel_rfl) (fun _ _ _ h => h) (by rfl) ?_ ?_ ?_
                      rotate_left; (intro w'; go_simp; with_reducible rfl); rotate_left; (simp only [Act.put, z1, z2, z3, i64_w, i32_w]; rfl)
                      refine pj_ (v := ?_) (a' := ?_) 11 (some 146) (bb 36 16626221055) rfl rfl HT_ (by kernel_rfl) (fun _ _ _ h => h) (by rfl) ?_ ?_ ?_
                      rotate_left; (intro w'; go_simp; with_reducible rfl); rotate_left; (simp only [Act.put, z1, z2, z3, i64_w, i32_w]; rfl)
                      refine pj_ (v := ?_) (a' := ?_) 24 (some 159) (bb 36 16642998271) rfl rfl HT_ (by kernel_rfl) (fun _ _ _ h => h) (by rfl) ?_ ?_ ?_
                      rotate_left; (intro w'; go_simp; with_reducible rfl); rotate_left; (simp only [Act.put, z1, z2, z3, i64_w, i32_w]; rfl)
                      refine pj_ (v := ?_) (a' := ?_) 29 (some 164) (bb 36 17179869183) rfl rfl HT_ (by kernel_rfl) (fun _ _ _ h => h) (by rfl) ?_ ?_ ?_
                      rotate_left; (intro w'; go_simp; with_reducible rfl); rotate_left; (simp only [Act.put, z1, z2, z3, i64_w, i32_w]; rfl)
                      refine pj_ (v := ?_) (a' := ?_) 34 (some 169) (bb 36 34359738367) rfl rfl HT_ (by kernel_rfl) (fun _ _ _ h => h) (by rfl) ?_ ?_ ?_
                      rotate_left; (intro w'; go_simp; with_reducible rfl); rotate_left; (simp only [Act.put, z1, z2, z3, i64_w, i32_w]; rfl)
                      refine pj_ (v := ?_) (a' := ?_) 35 (some 15) (bb 36 68719476735) rfl rfl HT_ (by kernel_rfl) (fun _ _ _ h => h) (by rfl) ?_ ?_ ?_
                      rotate_left; (intro w'; go_simp; with_reducible rfl); rotate_left; (simp only [Act.put, z1, z2, z3, i64_w, i32_w]; rfl)
                      refine done_ (done_of HT_.out (by kernel_rfl)) ?_
                      try go_wp2
                      (try (rw [drewN_self w65]; generalize hq_ : World.drewN w65 _ = w65; have n0_ : Aside0 (Kd.R (Kd.int .u32) 77 w65 w.heap.size (fun k_ => some k_ ≠ (.slice (some ad353) x11_3.length co64 : Value).ownBlock ∧ some k_ ≠ (.slice (some ad362) x5_2.length co67 : Value).ownBlock) (.slice (some ad361) t347.length co66) t347) := ⟨by rw [← hq_]; exact (by (with_reducible repeat (first | apply Kd.R_alloc | apply Kd.R_drewN | apply Kd.R_drew)); exact Kd.R_mono HO_10.out (fun _ hk => by first | exact ⟨hk.2, hk.1⟩ | exact hk | exact ⟨hk.1.1, hk.2⟩ | exact ⟨hk.1.2, hk.2⟩ | exact ⟨hk.2, hk.1.1⟩ | exact ⟨hk.2, hk.1.2⟩ | exact ⟨hk.1.1, hk.1.2⟩ | exact ⟨hk.1.2, hk.1.1⟩))⟩; have n1_ : Aside0 (Kd.R (Kd.int .u32) 77 w65 w.heap.size (fun k_ => some k_ ≠ (.slice (some ad361) t347.length co66 : Value).ownBlock ∧ some k_ ≠ (.slice (some ad362) x5_2.length co67 : Value).ownBlock) (.slice (some ad353) x11_3.length co64) x11_3) := ⟨by rw [← hq_]; exact (by (with_reducible repeat (first | apply Kd.R_alloc | apply Kd.R_drewN | apply Kd.R_drew)); exact Kd.R_mono HO_11.out (fun _ hk => by first | exact ⟨hk.2, hk.1⟩ | exact hk | exact ⟨hk.1.1, hk.2⟩ | exact ⟨hk.1.2, hk.2⟩ | exact ⟨hk.2, hk.1.1⟩ | exact ⟨hk.2, hk.1.2⟩ | exact ⟨hk.1.1, hk.1.2⟩ | exact ⟨hk.1.2, hk.1.1⟩))⟩; have n2_ : Aside0 (Kd.R (Kd.int .u32) 77 w65 w.heap.size (fun k_ => some k_ ≠ (.slice (some ad361) t347.length co66 : Value).ownBlock ∧ some k_ ≠ (.slice (some ad353) x11_3.length co64 : Value).ownBlock) (.slice (some ad362) x5_2.length co67) x5_2) := ⟨by rw [← hq_]; exact (by (with_reducible repeat (first | apply Kd.R_alloc | apply Kd.R_drewN | apply Kd.R_drew)); exact HO_5.out)⟩; have n3_ : Aside0 (Below w.heap.size w w65) := ⟨by rw [← hq_]; exact (by repeat (first | (with_reducible first | exact HB.out | apply below_alloc | apply pw_below_drewN | apply below_drew1) | exact HB.out))⟩; clear HO_10 HO_11 HO_5 HB hq_; have HO_10 := n0_; have HO_11 := n1_; have HO_5 := n2_; have HB := n3_; clear n0_ n1_ n2_ n3_))
                      have n0_ := Aside0.mk (Kd.R_drew HO_5.out)
                      have n1_ := Aside0.mk (Kd.R_drew HO_10.out)
                      have n2_ := Aside0.mk (Kd.R_drew HO_11.out)
                      have n3_ := Aside0.mk (below_drew1 HB.out)
                      clear HO_5
                      clear HO_10
                      clear HO_11
                      clear HB
                      have HO_5 := n0_
                      have HO_10 := n1_
                      have HO_11 := n2_
                      have HB := n3_
                      clear n0_ n1_ n2_ n3_
                      have p366 : 0 ≤ (1 : Int) := (by omega)
                      have q366 : 1 < (x11_3.length : Int) := of_decide_eq_true (by first | (with_reducible assumption) | assumption)
                      obtain ⟨ad366, e366, hx366_0⟩ := Kd.at_int (Kd.R_reads' HO_11.out).2.2 1 p366 q366
                      obtain rfl : ad353 = ad366 := (by injection e366)
                      (try simp only [show (1 : Int).toNat = 1 from rfl, Nat.reduceMul, Nat.reduceEqDiff, Go.Addr.add, ↓reduceIte] at hx366_0)
                      have qi366 : (1 < x11_3.length) = True := eq_true (by omega)
                      (try rw [show ((1 : Int)).toNat = 1 from rfl] at hx366_0)
                      replace p366 := eq_true p366
                      replace q366 := eq_true q366
                      have p367 : 0 ≤ (2 : Int) := (by omega)
                      have q367 : 2 < (x11_3.length : Int) := of_decide_eq_true (by first | (with_reducible assumption) | assumption)
                      obtain ⟨ad367, e367, hx367_0⟩ := Kd.at_int (Kd.R_reads' HO_11.out).2.2 2 p367 q367
                      obtain rfl : ad353 = ad367 := (by injection e367)
                      (try simp only [show (2 : Int).toNat = 2 from rfl, Nat.reduceMul, Nat.reduceEqDiff, Go.Addr.add, ↓reduceIte] at hx367_0)
                      have qi367 : (2 < x11_3.length) = True := eq_true (by omega)
                      (try rw [show ((2 : Int)).toNat = 2 from rfl] at hx367_0)
                      replace p367 := eq_true p367
                      replace q367 := eq_true q367
                      have p368 : 0 ≤ (1 : Int) := (by omega)
                      have q368 : 1 < (x11_3.length : Int) := of_decide_eq_true (by first | (with_reducible assumption) | assumption)
                      obtain ⟨ad368, e368, hx368_0⟩ := Kd.at_int (Kd.R_reads' HO_11.out).2.2 1 p368 q368
                      obtain rfl : ad353 = ad368 := (by injection e368)
                      (try simp only [show (1 : Int).toNat = 1 from rfl, Nat.reduceMul, Nat.reduceEqDiff, Go.Addr.add, ↓reduceIte] at hx368_0)
                      have qi368 : (1 < x11_3.length) = True := eq_true (by omega)
                      (try rw [show ((1 : Int)).toNat = 1 from rfl] at hx368_0)
                      replace p368 := eq_true p368
                      replace q368 := eq_true q368
                      have p369 : 0 ≤ (2 : Int) := (by omega)
                      have q369 : 2 < (x11_3.length : Int) := of_decide_eq_true (by first | (with_reducible assumption) | assumption)
                      obtain ⟨ad369, e369, hx369_0⟩ := Kd.at_int (Kd.R_reads' HO_11.out).2.2 2 p369 q369
                      obtain rfl : ad353 = ad369 := (by injection e369)
                      (try simp only [show (2 : Int).toNat = 2 from rfl, Nat.reduceMul, Nat.reduceEqDiff, Go.Addr.add, ↓reduceIte] at hx369_0)
                      have qi369 : (2 < x11_3.length) = True := eq_true (by omega)
                      (try rw [show ((2 : Int)).toNat = 2 from rfl] at hx369_0)
                      replace p369 := eq_true p369
                      replace q369 := eq_true q369
                      refine start_ (n := 29) (S := fun w' => w'.cell? ⟨ad353.block, ad353.off + 1, none⟩ = some (.int .u32 (rd x11_3 1)) ∧ w'.cell? ⟨ad353.block, ad353.off + 2, none⟩ = some (.int .u32 (rd x11_3 2)) ∧ w'.cell? ⟨ad353.block, ad353.off + 1, none⟩ = some (.int .u32 (rd x11_3 1)) ∧ w'.cell? ⟨ad353.block, ad353.off + 2, none⟩ = some (.int .u32 (rd x11_3 2))) (ds := []) (bb 29 0) (by kernel_rfl) rfl rfl ⟨hx366_0, hx367_0, hx368_0, hx369_0⟩ (fun hHeld => ?_); refine with_tabW aircheckref02_block.tab21 aircheckref02_block.bits21 (fun HT_ HW_ => ?_)
                      generalize w65.drew = w68 at HO_5 HO_10 HO_11 HB hx366_0 hx367_0 hx368_0 hx369_0 hHeld ⊢
                      refine pj_ (v := ?_) (a' := ?_) 0 (some 170) (bb 29 1) rfl rfl HT_ (by kernel_rfl) (fun _ _ _ h => h) (by rfl) ?_ ?_ ?_
                      rotate_left; (intro w'; go_simp; with_reducible rfl); rotate_left; (simp only [Act.put, z1, z2, z3, i64_w, i32_w]; rfl)
                      refine pj_ (v := ?_) (a' := ?_) 2 (some 172) (bb 29 5) rfl rfl HT_ (by kernel_rfl) (fun _ _ _ h => h) (by rfl) ?_ ?_ ?_
                      rotate_left; (intro w'; go_simp; with_reducible rfl); rotate_left; (simp only [Act.put, z1, z2, z3, i64_w, i32_w]; rfl)
                      refine pj_ (v := ?_) (a' := ?_) 5 (some 175) (bb 29 37) rfl rfl HT_ (by kernel_rfl) (fun _ _ _ h => h) (by rfl) ?_ ?_ ?_
                      rotate_left; (intro w'; go_simp; with_reducible rfl); rotate_left; (simp only [Act.put, z1, z2, z3, i64_w, i32_w]; rfl)
                      refine pj_ (v := ?_) (a' := ?_) 8 (some 178) (bb 29 293) rfl rfl HT_ (by kernel_rfl) (fun _ _ _ h => h) (by rfl) ?_ ?_ ?_
                      rotate_left; (intro w'; go_simp; with_reducible rfl); rotate_left; (simp only [Act.put, z1, z2, z3, i64_w, i32_w]; rfl)
                      refine pj_ (v := ?_) (a' := ?_) 9 (some 179) (bb 29 805) rfl rfl HT_ (by kernel_rfl) (fun _ _ _ h => h) (by rfl) ?_ ?_ ?_
                      rotate_left; (intro w'; go_simp; with_reducible rfl); rotate_left; (simp only [Act.put, z1, z2, z3, i64_w, i32_w]; rfl)
                      refine pj_ (v := ?_) (a' := ?_) 10 (some 180) (bb 29 1829) rfl rfl HT_ (by kernel_rfl) (fun _ _ _ h => h) (by rfl) ?_ ?_ ?_
                      rotate_left; (intro w'; go_simp; with_reducible rfl); rotate_left; (simp only [Act.put, z1, z2, z3, i64_w, i32_w]; rfl)
                      refine pj_ (v := ?_) (a' := ?_) 13 (some 183) (bb 29 10021) rfl rfl HT_ (by kernel_rfl) (fun _ _ _ h => h) (by rfl) ?_ ?_ ?_
                      rotate_left; (intro w'; go_simp; with_reducible rfl); rotate_left; (simp only [Act.put, z1, z2, z3, i64_w, i32_w]; rfl)
                      refine pj_ (v := ?_) (a' := ?_) 14 (some 184) (bb 29 26405) rfl rfl HT_ (by kernel_rfl) (fun _ _ _ h => h) (by rfl) ?_ ?_ ?_
                      rotate_left; (intro w'; go_simp; with_reducible rfl); rotate_left; (simp only [Act.put, z1, z2, z3, i64_w, i32_w]; rfl)
                      refine pj_ (v := ?_) (a' := ?_) 15 (some 185) (bb 29 59173) rfl rfl HT_ (by kernel_rfl) (fun _ _ _ h => h) (by rfl) ?_ ?_ ?_
                      rotate_left; (intro w'; go_simp; with_reducible rfl); rotate_left; (simp only [Act.put, z1, z2, z3, i64_w, i32_w]; rfl)
                      refine pj_ (v := ?_) (a' := ?_) 19 (some 189) (bb 29 583461) rfl rfl HT_ (by kernel_rfl) (fun _ _ _ h => h) (by rfl) ?_ ?_ ?_
                      rotate_left; (intro w'; go_simp; with_reducible rfl); rotate_left; (simp only [Act.put, z1, z2, z3, i64_w, i32_w]; rfl)
                      refine pj_ (v := ?_) (a' := ?_) 20 (some 190) (bb 29 1632037) rfl rfl HT_ (by kernel_rfl) (fun _ _ _ h => h) (by rfl) ?_ ?_ ?_
                      rotate_left; (intro w'; go_simp; with_reducible rfl); rotate_left; (simp only [Act.put, z1, z2, z3, i64_w, i32_w]; rfl)
                      refine pj_ (v := ?_) (a' := ?_) 22 (some 192) (bb 29 5826341) rfl rfl HT_ (by kernel_rfl) (fun _ _ _ h => h) (by rfl) ?_ ?_ ?_
                      rotate_left; (intro w'; go_simp; with_reducible rfl); rotate_left; (simp only [Act.put, z1, z2, z3, i64_w, i32_w]; rfl)
                      refine pj_ (v := ?_) (a' := ?_) 23 (some 193) (bb 29 14214949) rfl rfl HT_ (by kernel_rfl) (fun _ _ _ h => h) (by rfl) ?_ ?_ ?_
                      rotate_left; (intro w'; go_simp; with_reducible rfl); rotate_left; (simp only [Act.put, z1, z2, z3, i64_w, i32_w]; rfl)
                      refine tj_ (v := ?_) (a' := ?_) 11 (some 181) (bb 29 14216997) rfl rfl HT_ HW_ (by kernel_rfl) (fun _ _ _ h => h) (by rfl) hHeld ?_ ?_ ?_
                      rotate_left; (rintro w' ⟨s0, s1, s2, s3⟩; go_simp; with_reducible rfl); rotate_left; (simp only [Act.put, z1, z2, z3, i64_w, i32_w]; rfl)
                      refine pj_ (v := ?_) (a' := ?_) 12 (some 182) (bb 29 14221093) rfl rfl HT_ (by kernel_rfl) (fun _ _ _ h => h) (by rfl) ?_ ?_ ?_
                      rotate_left; (intro w'; go_simp; with_reducible rfl); rotate_left; (simp only [Act.put, z1, z2, z3, i64_w, i32_w]; rfl)
                      refine tj_ (v := ?_) (a' := ?_) 16 (some 186) (bb 29 14286629) rfl rfl HT_ HW_ (by kernel_rfl) (fun _ _ _ h => h) (by rfl) hHeld ?_ ?_ ?_
                      rotate_left; (rintro w' ⟨s0, s1, s2, s3⟩; go_simp; with_reducible rfl); rotate_left; (simp only [Act.put, z1, z2, z3, i64_w, i32_w]; rfl)
                      refine pj_ (v := ?_) (a' := ?_) 17 (some 187) (bb 29 14417701) rfl rfl HT_ (by kernel_rfl) (fun _ _ _ h => h) (by rfl) ?_ ?_ ?_
                      rotate_left; (intro w'; go_simp; with_reducible rfl); rotate_left; (simp only [Act.put, z1, z2, z3, i64_w, i32_w]; rfl)
                      refine pj_ (v := ?_) (a' := ?_) 18 (some 188) (bb 29 14679845) rfl rfl HT_ (by kernel_rfl) (fun _ _ _ h => h) (by rfl) ?_ ?_ ?_
                      rotate_left; (intro w'; go_simp; with_reducible rfl); rotate_left; (simp only [Act.put, z1, z2, z3, i64_w, i32_w]; rfl)
                      refine tj_ (v := ?_) (a' := ?_) 21 (some 191) (bb 29 16776997) rfl rfl HT_ HW_ (by kernel_rfl) (fun _ _ _ h => h) (by rfl) hHeld ?_ ?_ ?_
                      rotate_left; (rintro w' ⟨s0, s1, s2, s3⟩; go_simp; with_reducible rfl); rotate_left; (simp only [Act.put, z1, z2, z3, i64_w, i32_w]; rfl)
                      refine tj_ (v := ?_) (a' := ?_) 24 (some 194) (bb 29 33554213) rfl rfl HT_ HW_ (by kernel_rfl) (fun _ _ _ h => h) (by rfl) hHeld ?_ ?_ ?_
                      rotate_left; (rintro w' ⟨s0, s1, s2, s3⟩; go_simp; with_reducible rfl); rotate_left; (simp only [Act.put, z1, z2, z3, i64_w, i32_w]; rfl)
                      refine pj_ (v := ?_) (a' := ?_) 25 (some 195) (bb 29 67108645) rfl rfl HT_ (by kernel_rfl) (fun _ _ _ h => h) (by rfl) ?_ ?_ ?_
                      rotate_left; (intro w'; go_simp; with_reducible rfl); rotate_left; (simp only [Act.put, z1, z2, z3, i64_w, i32_w]; rfl)
                      refine pj_ (v := ?_) (a' := ?_) 26 (some 196) (bb 29 134217509) rfl rfl HT_ (by kernel_rfl) (fun _ _ _ h => h) (by rfl) ?_ ?_ ?_
                      rotate_left; (intro w'; go_simp; with_reducible rfl); rotate_left; (simp only [Act.put, z1, z2, z3, i64_w, i32_w]; rfl)
                      refine one_ (i := 1) (N := some 171) (bb 29 134217511) rfl rfl (one_of HT_.out (by kernel_rfl)) (by decide) (fun K hK => ?_)
                      refine goes_ Tryd.func58 (by kernel_rfl) rfl #[.int .u32 (rd x11_3 0), .int .i64 2] (by rfl) rfl rfl (by (try simp only [List.map_toArray, List.map_cons, List.map_nil]); first | done | rfl | (simp only [List.length_drop, List.length_take]; rfl)) ?_
                      with_reducible refine (aircheckref02_rotated.calls (rd x11_3 0) 2 t363 _ A58.out).mono ?_
                      rintro e w' ⟨rfl, ⟨nd, rfl⟩⟩
                      refine ⟨_, rfl, ?_⟩
                      refine hK.out _ _ ⟨hHeld.1, hHeld.2.1, hHeld.2.2.1, hHeld.2.2.2⟩ (fun hHeld => ?_)
                      clear hK K
                      refine norm_ (a' := ?_) ?_ ?_
                      rotate_left
                      ·show Act.put _ (some 171) _ = _
                       simp only [Act.put, z1, z2, z3, i64_w, i32_w]
                       rfl
                      refine one_ (i := 3) (N := some 173) (bb 29 134217519) rfl rfl (one_of HT_.out (by kernel_rfl)) (by decide) (fun K hK => ?_)
                      refine goes_ Tryd.func58 (by kernel_rfl) rfl #[.int .u32 (rd x11_3 0), .int .i64 13] (by rfl) rfl rfl (by (try simp only [List.map_toArray, List.map_cons, List.map_nil]); first | done | rfl | (simp only [List.length_drop, List.length_take]; rfl)) ?_
                      with_reducible refine (aircheckref02_rotated.calls (rd x11_3 0) 13 t364 _ A59.out).mono ?_
                      rintro e w' ⟨rfl, ⟨nd, rfl⟩⟩
                      refine ⟨_, rfl, ?_⟩
                      refine hK.out _ _ ⟨hHeld.1, hHeld.2.1, hHeld.2.2.1, hHeld.2.2.2⟩ (fun hHeld => ?_)
                      clear hK K
                      refine norm_ (a' := ?_) ?_ ?_
                      rotate_left
                      ·show Act.put _ (some 173) _ = _
                       simp only [Act.put, z1, z2, z3, i64_w, i32_w]
                       rfl
                      refine pj_ (v := ?_) (a' := ?_) 4 (some 174) (bb 29 134217535) rfl rfl HT_ (by kernel_rfl) (fun _ _ _ h => h) (by rfl) ?_ ?_ ?_
                      rotate_left; (intro w'; go_simp; with_reducible rfl); rotate_left; (simp only [Act.put, z1, z2, z3, i64_w, i32_w]; rfl)
                      refine one_ (i := 6) (N := some 176) (bb 29 134217599) rfl rfl (one_of HT_.out (by kernel_rfl)) (by decide) (fun K hK => ?_)
                      refine goes_ Tryd.func58 (by kernel_rfl) rfl #[.int .u32 (rd x11_3 0), .int .i64 22] (by rfl) rfl rfl (by (try simp only [List.map_toArray, List.map_cons, List.map_nil]); first | done | rfl | (simp only [List.length_drop, List.length_take]; rfl)) ?_
                      with_reducible refine (aircheckref02_rotated.calls (rd x11_3 0) 22 t365 _ A60.out).mono ?_
                      rintro e w' ⟨rfl, ⟨nd, rfl⟩⟩
                      refine ⟨_, rfl, ?_⟩
                      refine hK.out _ _ ⟨hHeld.1, hHeld.2.1, hHeld.2.2.1, hHeld.2.2.2⟩ (fun hHeld => ?_)
                      clear hK K
                      refine norm_ (a' := ?_) ?_ ?_
                      rotate_left
                      ·show Act.put _ (some 176) _ = _
                       simp only [Act.put, z1, z2, z3, i64_w, i32_w]
                       rfl
                      refine pj_ (v := ?_) (a' := ?_) 7 (some 177) (bb 29 134217727) rfl rfl HT_ (by kernel_rfl) (fun _ _ _ h => h) (by rfl) ?_ ?_ ?_
                      rotate_left; (intro w'; go_simp; with_reducible rfl); rotate_left; (simp only [Act.put, z1, z2, z3, i64_w, i32_w]; rfl)
                      refine pj_ (v := ?_) (a' := ?_) 27 (some 197) (bb 29 268435455) rfl rfl HT_ (by kernel_rfl) (fun _ _ _ h => h) (by rfl) ?_ ?_ ?_
                      rotate_left; (intro w'; go_simp; with_reducible rfl); rotate_left; (simp only [Act.put, z1, z2, z3, i64_w, i32_w]; rfl)
                      refine pj_ (v := ?_) (a' := ?_) 28 (some 16) (bb 29 536870911) rfl rfl HT_ (by kernel_rfl) (fun _ _ _ h => h) (by rfl) ?_ ?_ ?_
                      rotate_left; (intro w'; go_simp; with_reducible rfl); rotate_left; (simp only [Act.put, z1, z2, z3, i64_w, i32_w]; rfl)
                      refine done_ (done_of HT_.out (by kernel_rfl)) ?_
                      try go_wp2
                      (try (rw [drewN_self w68]; generalize hq_ : World.drewN w68 _ = w68; have n0_ : Aside0 (Kd.R (Kd.int .u32) 77 w68 w.heap.size (fun k_ => some k_ ≠ (.slice (some ad353) x11_3.length co64 : Value).ownBlock ∧ some k_ ≠ (.slice (some ad362) x5_2.length co67 : Value).ownBlock) (.slice (some ad361) t347.length co66) t347) := ⟨by rw [← hq_]; exact (by (with_reducible repeat (first | apply Kd.R_alloc | apply Kd.R_drewN | apply Kd.R_drew)); exact Kd.R_mono HO_10.out (fun _ hk => by first | exact ⟨hk.2, hk.1⟩ | exact hk | exact ⟨hk.1.1, hk.2⟩ | exact ⟨hk.1.2, hk.2⟩ | exact ⟨hk.2, hk.1.1⟩ | exact ⟨hk.2, hk.1.2⟩ | exact ⟨hk.1.1, hk.1.2⟩ | exact ⟨hk.1.2, hk.1.1⟩))⟩; have n1_ : Aside0 (Kd.R (Kd.int .u32) 77 w68 w.heap.size (fun k_ => some k_ ≠ (.slice (some ad361) t347.length co66 : Value).ownBlock ∧ some k_ ≠ (.slice (some ad362) x5_2.length co67 : Value).ownBlock) (.slice (some ad353) x11_3.length co64) x11_3) := ⟨by rw [← hq_]; exact (by (with_reducible repeat (first | apply Kd.R_alloc | apply Kd.R_drewN | apply Kd.R_drew)); exact Kd.R_mono HO_11.out (fun _ hk => by first | exact ⟨hk.2, hk.1⟩ | exact hk | exact ⟨hk.1.1, hk.2⟩ | exact ⟨hk.1.2, hk.2⟩ | exact ⟨hk.2, hk.1.1⟩ | exact ⟨hk.2, hk.1.2⟩ | exact ⟨hk.1.1, hk.1.2⟩ | exact ⟨hk.1.2, hk.1.1⟩))⟩; have n2_ : Aside0 (Kd.R (Kd.int .u32) 77 w68 w.heap.size (fun k_ => some k_ ≠ (.slice (some ad361) t347.length co66 : Value).ownBlock ∧ some k_ ≠ (.slice (some ad353) x11_3.length co64 : Value).ownBlock) (.slice (some ad362) x5_2.length co67) x5_2) := ⟨by rw [← hq_]; exact (by (with_reducible repeat (first | apply Kd.R_alloc | apply Kd.R_drewN | apply Kd.R_drew)); exact HO_5.out)⟩; have n3_ : Aside0 (Below w.heap.size w w68) := ⟨by rw [← hq_]; exact (by repeat (first | (with_reducible first | exact HB.out | apply below_alloc | apply pw_below_drewN | apply below_drew1) | exact HB.out))⟩; clear HO_10 HO_11 HO_5 HB hq_; have HO_10 := n0_; have HO_11 := n1_; have HO_5 := n2_; have HB := n3_; clear n0_ n1_ n2_ n3_))
                      have n0_ := Aside0.mk (Kd.R_drew HO_5.out)
                      have n1_ := Aside0.mk (Kd.R_drew HO_10.out)
                      have n2_ := Aside0.mk (Kd.R_drew HO_11.out)
                      have n3_ := Aside0.mk (below_drew1 HB.out)
                      clear HO_5
                      clear HO_10
                      clear HO_11
                      clear HB
                      have HO_5 := n0_
                      have HO_10 := n1_
                      have HO_11 := n2_
                      have HB := n3_
                      clear n0_ n1_ n2_ n3_
                      have p370 : 0 ≤ (1 : Int) := (by omega)
                      have q370 : 1 < (x11_3.length : Int) := of_decide_eq_true (by first | (with_reducible assumption) | assumption)
                      obtain ⟨ad370, e370, hx370_0⟩ := Kd.at_int (Kd.R_reads' HO_11.out).2.2 1 p370 q370
                      obtain rfl : ad353 = ad370 := (by injection e370)
                      (try simp only [show (1 : Int).toNat = 1 from rfl, Nat.reduceMul, Nat.reduceEqDiff, Go.Addr.add, ↓reduceIte] at hx370_0)
                      have qi370 : (1 < x11_3.length) = True := eq_true (by omega)
                      (try rw [show ((1 : Int)).toNat = 1 from rfl] at hx370_0)
                      replace p370 := eq_true p370
                      replace q370 := eq_true q370
                      have p371 : 0 ≤ (2 : Int) := (by omega)
                      have q371 : 2 < (x11_3.length : Int) := of_decide_eq_true (by first | (with_reducible assumption) | assumption)
                      obtain ⟨ad371, e371, hx371_0⟩ := Kd.at_int (Kd.R_reads' HO_11.out).2.2 2 p371 q371
                      obtain rfl : ad353 = ad371 := (by injection e371)
                      (try simp only [show (2 : Int).toNat = 2 from rfl, Nat.reduceMul, Nat.reduceEqDiff, Go.Addr.add, ↓reduceIte] at hx371_0)
                      have qi371 : (2 < x11_3.length) = True := eq_true (by omega)
                      (try rw [show ((2 : Int)).toNat = 2 from rfl] at hx371_0)
                      replace p371 := eq_true p371
                      replace q371 := eq_true q371
                      have p372 : 0 ≤ (3 : Int) := (by omega)
                      have q372 : 3 < (x11_3.length : Int) := of_decide_eq_true (by first | (with_reducible assumption) | assumption)
                      obtain ⟨ad372, e372, hx372_0⟩ := Kd.at_int (Kd.R_reads' HO_11.out).2.2 3 p372 q372
                      obtain rfl : ad353 = ad372 := (by injection e372)
                      (try simp only [show (3 : Int).toNat = 3 from rfl, Nat.reduceMul, Nat.reduceEqDiff, Go.Addr.add, ↓reduceIte] at hx372_0)
                      have qi372 : (3 < x11_3.length) = True := eq_true (by omega)
                      (try rw [show ((3 : Int)).toNat = 3 from rfl] at hx372_0)
                      replace p372 := eq_true p372
                      replace q372 := eq_true q372
                      have p373 : 0 ≤ (5 : Int) := (by omega)
                      have q373 : 5 < (x11_3.length : Int) := of_decide_eq_true (by first | (with_reducible assumption) | assumption)
                      obtain ⟨ad373, e373, hx373_0⟩ := Kd.at_int (Kd.R_reads' HO_11.out).2.2 5 p373 q373
                      obtain rfl : ad353 = ad373 := (by injection e373)
                      (try simp only [show (5 : Int).toNat = 5 from rfl, Nat.reduceMul, Nat.reduceEqDiff, Go.Addr.add, ↓reduceIte] at hx373_0)
                      have qi373 : (5 < x11_3.length) = True := eq_true (by omega)
                      (try rw [show ((5 : Int)).toNat = 5 from rfl] at hx373_0)
                      replace p373 := eq_true p373
                      replace q373 := eq_true q373
                      have p374 : 0 ≤ (6 : Int) := (by omega)
                      have q374 : 6 < (x11_3.length : Int) := of_decide_eq_true (by first | (with_reducible assumption) | assumption)
                      obtain ⟨ad374, e374, hx374_0⟩ := Kd.at_int (Kd.R_reads' HO_11.out).2.2 6 p374 q374
                      obtain rfl : ad353 = ad374 := (by injection e374)
                      (try simp only [show (6 : Int).toNat = 6 from rfl, Nat.reduceMul, Nat.reduceEqDiff, Go.Addr.add, ↓reduceIte] at hx374_0)
                      have qi374 : (6 < x11_3.length) = True := eq_true (by omega)
                      (try rw [show ((6 : Int)).toNat = 6 from rfl] at hx374_0)
                      replace p374 := eq_true p374
                      replace q374 := eq_true q374
                      refine start_ (n := 24) (S := fun w' => w'.cell? ⟨ad353.block, ad353.off + 1, none⟩ = some (.int .u32 (rd x11_3 1)) ∧ w'.cell? ⟨ad353.block, ad353.off + 2, none⟩ = some (.int .u32 (rd x11_3 2)) ∧ w'.cell? ⟨ad353.block, ad353.off + 3, none⟩ = some (.int .u32 (rd x11_3 3)) ∧ w'.cell? ⟨ad353.block, ad353.off + 5, none⟩ = some (.int .u32 (rd x11_3 5)) ∧ w'.cell? ⟨ad353.block, ad353.off + 6, none⟩ = some (.int .u32 (rd x11_3 6))) (ds := []) (bb 24 0) (by kernel_rfl) rfl rfl ⟨hx370_0, hx371_0, hx372_0, hx373_0, hx374_0⟩ (fun hHeld => ?_); refine with_tabW aircheckref02_block.tab22 aircheckref02_block.bits22 (fun HT_ HW_ => ?_)
                      generalize w68.drew = w69 at HO_5 HO_10 HO_11 HB hx370_0 hx371_0 hx372_0 hx373_0 hx374_0 hHeld ⊢
                      refine pj_ (v := ?_) (a' := ?_) 0 (some 198) (bb 24 1) rfl rfl HT_ (by kernel_rfl) (fun _ _ _ h => h) (by rfl) ?_ ?_ ?_
                      rotate_left; (intro w'; go_simp; with_reducible rfl); rotate_left; (simp only [Act.put, z1, z2, z3, i64_w, i32_w]; rfl)
                      refine pj_ (v := ?_) (a' := ?_) 1 (some 199) (bb 24 3) rfl rfl HT_ (by kernel_rfl) (fun _ _ _ h => h) (by rfl) ?_ ?_ ?_
                      rotate_left; (intro w'; go_simp; with_reducible rfl); rotate_left; (simp only [Act.put, z1, z2, z3, i64_w, i32_w]; rfl)
                      refine pj_ (v := ?_) (a' := ?_) 2 (some 200) (bb 24 7) rfl rfl HT_ (by kernel_rfl) (fun _ _ _ h => h) (by rfl) ?_ ?_ ?_
                      rotate_left; (intro w'; go_simp; with_reducible rfl); rotate_left; (simp only [Act.put, z1, z2, z3, i64_w, i32_w]; rfl)
                      refine pj_ (v := ?_) (a' := ?_) 3 (some 201) (bb 24 15) rfl rfl HT_ (by kernel_rfl) (fun _ _ _ h => h) (by rfl) ?_ ?_ ?_
                      rotate_left; (intro w'; go_simp; with_reducible rfl); rotate_left; (simp only [Act.put, z1, z2, z3, i64_w, i32_w]; rfl)
                      refine pj_ (v := ?_) (a' := ?_) 4 (some 202) (bb 24 31) rfl rfl HT_ (by kernel_rfl) (fun _ _ _ h => h) (by rfl) ?_ ?_ ?_
                      rotate_left; (intro w'; go_simp; with_reducible rfl); rotate_left; (simp only [Act.put, z1, z2, z3, i64_w, i32_w]; rfl)
                      refine pj_ (v := ?_) (a' := ?_) 5 (some 203) (bb 24 63) rfl rfl HT_ (by kernel_rfl) (fun _ _ _ h => h) (by rfl) ?_ ?_ ?_
                      rotate_left; (intro w'; go_simp; with_reducible rfl); rotate_left; (simp only [Act.put, z1, z2, z3, i64_w, i32_w]; rfl)
                      refine pj_ (v := ?_) (a' := ?_) 7 (some 205) (bb 24 191) rfl rfl HT_ (by kernel_rfl) (fun _ _ _ h => h) (by rfl) ?_ ?_ ?_
                      rotate_left; (intro w'; go_simp; with_reducible rfl); rotate_left; (simp only [Act.put, z1, z2, z3, i64_w, i32_w]; rfl)
                      refine pj_ (v := ?_) (a' := ?_) 8 (some 206) (bb 24 447) rfl rfl HT_ (by kernel_rfl) (fun _ _ _ h => h) (by rfl) ?_ ?_ ?_
                      rotate_left; (intro w'; go_simp; with_reducible rfl); rotate_left; (simp only [Act.put, z1, z2, z3, i64_w, i32_w]; rfl)
                      refine pj_ (v := ?_) (a' := ?_) 10 (some 208) (bb 24 1471) rfl rfl HT_ (by kernel_rfl) (fun _ _ _ h => h) (by rfl) ?_ ?_ ?_
                      rotate_left; (intro w'; go_simp; with_reducible rfl); rotate_left; (simp only [Act.put, z1, z2, z3, i64_w, i32_w]; rfl)
                      refine pj_ (v := ?_) (a' := ?_) 11 (some 209) (bb 24 3519) rfl rfl HT_ (by kernel_rfl) (fun _ _ _ h => h) (by rfl) ?_ ?_ ?_
                      rotate_left; (intro w'; go_simp; with_reducible rfl); rotate_left; (simp only [Act.put, z1, z2, z3, i64_w, i32_w]; rfl)
                      refine pj_ (v := ?_) (a' := ?_) 13 (some 211) (bb 24 11711) rfl rfl HT_ (by kernel_rfl) (fun _ _ _ h => h) (by rfl) ?_ ?_ ?_
                      rotate_left; (intro w'; go_simp; with_reducible rfl); rotate_left; (simp only [Act.put, z1, z2, z3, i64_w, i32_w]; rfl)
                      refine pj_ (v := ?_) (a' := ?_) 15 (some 213) (bb 24 44479) rfl rfl HT_ (by kernel_rfl) (fun _ _ _ h => h) (by rfl) ?_ ?_ ?_
                      rotate_left; (intro w'; go_simp; with_reducible rfl); rotate_left; (simp only [Act.put, z1, z2, z3, i64_w, i32_w]; rfl)
                      refine pj_ (v := ?_) (a' := ?_) 16 (some 214) (bb 24 110015) rfl rfl HT_ (by kernel_rfl) (fun _ _ _ h => h) (by rfl) ?_ ?_ ?_
                      rotate_left; (intro w'; go_simp; with_reducible rfl); rotate_left; (simp only [Act.put, z1, z2, z3, i64_w, i32_w]; rfl)
                      refine pj_ (v := ?_) (a' := ?_) 17 (some 215) (bb 24 241087) rfl rfl HT_ (by kernel_rfl) (fun _ _ _ h => h) (by rfl) ?_ ?_ ?_
                      rotate_left; (intro w'; go_simp; with_reducible rfl); rotate_left; (simp only [Act.put, z1, z2, z3, i64_w, i32_w]; rfl)
                      refine pj_ (v := ?_) (a' := ?_) 19 (some 217) (bb 24 765375) rfl rfl HT_ (by kernel_rfl) (fun _ _ _ h => h) (by rfl) ?_ ?_ ?_
                      rotate_left; (intro w'; go_simp; with_reducible rfl); rotate_left; (simp only [Act.put, z1, z2, z3, i64_w, i32_w]; rfl)
                      refine pj_ (v := ?_) (a' := ?_) 20 (some 218) (bb 24 1813951) rfl rfl HT_ (by kernel_rfl) (fun _ _ _ h => h) (by rfl) ?_ ?_ ?_
                      rotate_left; (intro w'; go_simp; with_reducible rfl); rotate_left; (simp only [Act.put, z1, z2, z3, i64_w, i32_w]; rfl)
                      refine tj_ (v := ?_) (a' := ?_) 6 (some 204) (bb 24 1814015) rfl rfl HT_ HW_ (by kernel_rfl) (fun _ _ _ h => h) (by rfl) hHeld ?_ ?_ ?_
                      rotate_left; (rintro w' ⟨s0, s1, s2, s3, s4⟩; go_simp; with_reducible rfl); rotate_left; (simp only [Act.put, z1, z2, z3, i64_w, i32_w]; rfl)
                      refine tj_ (v := ?_) (a' := ?_) 9 (some 207) (bb 24 1814527) rfl rfl HT_ HW_ (by kernel_rfl) (fun _ _ _ h => h) (by rfl) hHeld ?_ ?_ ?_
                      rotate_left; (rintro w' ⟨s0, s1, s2, s3, s4⟩; go_simp; with_reducible rfl); rotate_left; (simp only [Act.put, z1, z2, z3, i64_w, i32_w]; rfl)
                      refine tj_ (v := ?_) (a' := ?_) 12 (some 210) (bb 24 1818623) rfl rfl HT_ HW_ (by kernel_rfl) (fun _ _ _ h => h) (by rfl) hHeld ?_ ?_ ?_
                      rotate_left; (rintro w' ⟨s0, s1, s2, s3, s4⟩; go_simp; with_reducible rfl); rotate_left; (simp only [Act.put, z1, z2, z3, i64_w, i32_w]; rfl)
                      refine pj_ (v := ?_) (a' := ?_) 14 (some 212) (bb 24 1835007) rfl rfl HT_ (by kernel_rfl) (fun _ _ _ h => h) (by rfl) ?_ ?_ ?_
                      rotate_left; (intro w'; go_simp; with_reducible rfl); rotate_left; (simp only [Act.put, z1, z2, z3, i64_w, i32_w]; rfl)
                      refine tj_ (v := ?_) (a' := ?_) 18 (some 216) (bb 24 2097151) rfl rfl HT_ HW_ (by kernel_rfl) (fun _ _ _ h => h) (by rfl) hHeld ?_ ?_ ?_
                      rotate_left; (rintro w' ⟨s0, s1, s2, s3, s4⟩; go_simp; with_reducible rfl); rotate_left; (simp only [Act.put, z1, z2, z3, i64_w, i32_w]; rfl)
                      refine tj_ (v := ?_) (a' := ?_) 21 (some 219) (bb 24 4194303) rfl rfl HT_ HW_ (by kernel_rfl) (fun _ _ _ h => h) (by rfl) hHeld ?_ ?_ ?_
                      rotate_left; (rintro w' ⟨s0, s1, s2, s3, s4⟩; go_simp; with_reducible rfl); rotate_left; (simp only [Act.put, z1, z2, z3, i64_w, i32_w]; rfl)
                      refine one_ (i := 22) (N := some 220) (bb 24 8388607) rfl rfl (one_of HT_.out (by kernel_rfl)) (by decide) (fun K hK => ?_)
                      refine Kd.R_lit_step (Kd.int .u32) _ 77 ?hg (N := 220) ?hd (xs := ([((((((((((rd x11_3 7) + (Go.bits .xor .u32 (Go.bits .xor .u32 t356 t357) t358)) % 4294967296) + (Go.bits .xor .u32 (Go.bits .and .u32 (rd x11_3 4) (rd x11_3 5)) (Go.bits .and .u32 (Go.bits .xor .u32 4294967295 (rd x11_3 4)) (rd x11_3 6)))) % 4294967296) + (rd t347 x12_3)) % 4294967296) + (rd x5_2 x12_3)) % 4294967296) + (((Go.bits .xor .u32 (Go.bits .xor .u32 t363 t364) t365) + (Go.bits .xor .u32 (Go.bits .xor .u32 (Go.bits .and .u32 (rd x11_3 0) (rd x11_3 1)) (Go.bits .and .u32 (rd x11_3 0) (rd x11_3 2))) (Go.bits .and .u32 (rd x11_3 1) (rd x11_3 2)))) % 4294967296)) % 4294967296, rd x11_3 0, rd x11_3 1, rd x11_3 2, ((rd x11_3 3) + (((((((((rd x11_3 7) + (Go.bits .xor .u32 (Go.bits .xor .u32 t356 t357) t358)) % 4294967296) + (Go.bits .xor .u32 (Go.bits .and .u32 (rd x11_3 4) (rd x11_3 5)) (Go.bits .and .u32 (Go.bits .xor .u32 4294967295 (rd x11_3 4)) (rd x11_3 6)))) % 4294967296) + (rd t347 x12_3)) % 4294967296) + (rd x5_2 x12_3)) % 4294967296)) % 4294967296, rd x11_3 4, rd x11_3 5, rd x11_3 6] : List Int)) (inner := [.int .u32 (((((((((((rd x11_3 7) + (Go.bits .xor .u32 (Go.bits .xor .u32 t356 t357) t358)) % 4294967296) + (Go.bits .xor .u32 (Go.bits .and .u32 (rd x11_3 4) (rd x11_3 5)) (Go.bits .and .u32 (Go.bits .xor .u32 4294967295 (rd x11_3 4)) (rd x11_3 6)))) % 4294967296) + (rd t347 x12_3)) % 4294967296) + (rd x5_2 x12_3)) % 4294967296) + (((Go.bits .xor .u32 (Go.bits .xor .u32 t363 t364) t365) + (Go.bits .xor .u32 (Go.bits .xor .u32 (Go.bits .and .u32 (rd x11_3 0) (rd x11_3 1)) (Go.bits .and .u32 (rd x11_3 0) (rd x11_3 2))) (Go.bits .and .u32 (rd x11_3 1) (rd x11_3 2)))) % 4294967296)) % 4294967296), .int .u32 (rd x11_3 0), .int .u32 (rd x11_3 1), .int .u32 (rd x11_3 2), .int .u32 (((rd x11_3 3) + (((((((((rd x11_3 7) + (Go.bits .xor .u32 (Go.bits .xor .u32 t356 t357) t358)) % 4294967296) + (Go.bits .xor .u32 (Go.bits .and .u32 (rd x11_3 4) (rd x11_3 5)) (Go.bits .and .u32 (Go.bits .xor .u32 4294967295 (rd x11_3 4)) (rd x11_3 6)))) % 4294967296) + (rd t347 x12_3)) % 4294967296) + (rd x5_2 x12_3)) % 4294967296)) % 4294967296), .int .u32 (rd x11_3 4), .int .u32 (rd x11_3 5), .int .u32 (rd x11_3 6)]) (ok := fun _ => True) (okp := fun _ => True) ?hr ?hp (fun _ hk => hk) trivial (Below.refl _ _) (Nat.le_refl _) (by simp) ?_; (case hd => rfl); (case hg => rfl); (case hr => first | (go_simp; done) | (go_simp; simp only [show ∀ x_ : Int, IntKind.u32.wrap x_ = x_ % 4294967296 from fun _ => rfl]; simp; done) | (go_simp; rfl)); (case hp => exact (Reps.one (show Kd.M (Kd.int .u32) _ _ _ (((((((((((rd x11_3 7) + (Go.bits .xor .u32 (Go.bits .xor .u32 t356 t357) t358)) % 4294967296) + (Go.bits .xor .u32 (Go.bits .and .u32 (rd x11_3 4) (rd x11_3 5)) (Go.bits .and .u32 (Go.bits .xor .u32 4294967295 (rd x11_3 4)) (rd x11_3 6)))) % 4294967296) + (rd t347 x12_3)) % 4294967296) + (rd x5_2 x12_3)) % 4294967296) + (((Go.bits .xor .u32 (Go.bits .xor .u32 t363 t364) t365) + (Go.bits .xor .u32 (Go.bits .xor .u32 (Go.bits .and .u32 (rd x11_3 0) (rd x11_3 1)) (Go.bits .and .u32 (rd x11_3 0) (rd x11_3 2))) (Go.bits .and .u32 (rd x11_3 1) (rd x11_3 2)))) % 4294967296)) % 4294967296) [.int .u32 (((((((((((rd x11_3 7) + (Go.bits .xor .u32 (Go.bits .xor .u32 t356 t357) t358)) % 4294967296) + (Go.bits .xor .u32 (Go.bits .and .u32 (rd x11_3 4) (rd x11_3 5)) (Go.bits .and .u32 (Go.bits .xor .u32 4294967295 (rd x11_3 4)) (rd x11_3 6)))) % 4294967296) + (rd t347 x12_3)) % 4294967296) + (rd x5_2 x12_3)) % 4294967296) + (((Go.bits .xor .u32 (Go.bits .xor .u32 t363 t364) t365) + (Go.bits .xor .u32 (Go.bits .xor .u32 (Go.bits .and .u32 (rd x11_3 0) (rd x11_3 1)) (Go.bits .and .u32 (rd x11_3 0) (rd x11_3 2))) (Go.bits .and .u32 (rd x11_3 1) (rd x11_3 2)))) % 4294967296)) % 4294967296)] from rfl) (Reps.one (show Kd.M (Kd.int .u32) _ _ _ (rd x11_3 0) [.int .u32 (rd x11_3 0)] from rfl) (Reps.one (show Kd.M (Kd.int .u32) _ _ _ (rd x11_3 1) [.int .u32 (rd x11_3 1)] from rfl) (Reps.one (show Kd.M (Kd.int .u32) _ _ _ (rd x11_3 2) [.int .u32 (rd x11_3 2)] from rfl) (Reps.one (show Kd.M (Kd.int .u32) _ _ _ (((rd x11_3 3) + (((((((((rd x11_3 7) + (Go.bits .xor .u32 (Go.bits .xor .u32 t356 t357) t358)) % 4294967296) + (Go.bits .xor .u32 (Go.bits .and .u32 (rd x11_3 4) (rd x11_3 5)) (Go.bits .and .u32 (Go.bits .xor .u32 4294967295 (rd x11_3 4)) (rd x11_3 6)))) % 4294967296) + (rd t347 x12_3)) % 4294967296) + (rd x5_2 x12_3)) % 4294967296)) % 4294967296) [.int .u32 (((rd x11_3 3) + (((((((((rd x11_3 7) + (Go.bits .xor .u32 (Go.bits .xor .u32 t356 t357) t358)) % 4294967296) + (Go.bits .xor .u32 (Go.bits .and .u32 (rd x11_3 4) (rd x11_3 5)) (Go.bits .and .u32 (Go.bits .xor .u32 4294967295 (rd x11_3 4)) (rd x11_3 6)))) % 4294967296) + (rd t347 x12_3)) % 4294967296) + (rd x5_2 x12_3)) % 4294967296)) % 4294967296)] from rfl) (Reps.one (show Kd.M (Kd.int .u32) _ _ _ (rd x11_3 4) [.int .u32 (rd x11_3 4)] from rfl) (Reps.one (show Kd.M (Kd.int .u32) _ _ _ (rd x11_3 5) [.int .u32 (rd x11_3 5)] from rfl) (Reps.one (show Kd.M (Kd.int .u32) _ _ _ (rd x11_3 6) [.int .u32 (rd x11_3 6)] from rfl) (Reps.none _ _))))))))))
                      intro v376 w70 ho71 hb hg_ hnew_
                      have HS0_ := (hb.cell (World.block_lt_of_cell? _ _ (hHeld.1))).trans (hHeld.1)
                      have HS1_ := (hb.cell (World.block_lt_of_cell? _ _ (hHeld.2.1))).trans (hHeld.2.1)
                      have HS2_ := (hb.cell (World.block_lt_of_cell? _ _ (hHeld.2.2.1))).trans (hHeld.2.2.1)
                      have HS3_ := (hb.cell (World.block_lt_of_cell? _ _ (hHeld.2.2.2.1))).trans (hHeld.2.2.2.1)
                      have HS4_ := (hb.cell (World.block_lt_of_cell? _ _ (hHeld.2.2.2.2))).trans (hHeld.2.2.2.2)
                      clear hg_ hnew_
                      (first | rw [← Ny375.out] at ho71 | (simp only [Int.reduceToNat] at ho71; rw [← Ny375.out] at ho71))
                      have n0_ := Aside0.mk (Kd.R_elder' (by (with_reducible repeat (first | apply Kd.R_alloc | apply Kd.R_drewN | apply Kd.R_drew)); exact HO_5.out) (Kd.R_base ho71) hb)
                      have n1_ := Aside0.mk (Kd.R_elder' (by (with_reducible repeat (first | apply Kd.R_alloc | apply Kd.R_drewN | apply Kd.R_drew)); exact HO_10.out) (Kd.R_base ho71) hb)
                      have n2_ := Aside0.mk (Kd.R_elder' (by (with_reducible repeat (first | apply Kd.R_alloc | apply Kd.R_drewN | apply Kd.R_drew)); exact HO_11.out) (Kd.R_base ho71) hb)
                      have n3_ := Aside0.mk (Kd.R_lower (Kd.R_new' (Kd.R_new' (Kd.R_new' ho71 (Kd.R_lt (by (with_reducible repeat (first | apply Kd.R_alloc | apply Kd.R_drewN | apply Kd.R_drew)); exact HO_5.out))) (Kd.R_lt (by (with_reducible repeat (first | apply Kd.R_alloc | apply Kd.R_drewN | apply Kd.R_drew)); exact HO_10.out))) (Kd.R_lt (by (with_reducible repeat (first | apply Kd.R_alloc | apply Kd.R_drewN | apply Kd.R_drew)); exact HO_11.out))) (below_size (by repeat (first | (with_reducible first | exact HB.out | apply below_alloc | apply pw_below_drewN | apply below_drew1) | exact HB.out))))
                      have n4_ := Aside0.mk (below_step (by repeat (first | (with_reducible first | exact HB.out | apply below_alloc | apply pw_below_drewN | apply below_drew1) | exact HB.out)) hb)
                      clear HO_5
                      clear HO_10
                      clear HO_11
                      clear HB
                      have HO_5 := n0_
                      have HO_10 := n1_
                      have HO_11 := n2_
                      have HO377 := n3_
                      have HB := n4_
                      clear n0_ n1_ n2_ n3_ n4_
                      clear hb ho71
                      refine hK.out _ _ ⟨HS0_, HS1_, HS2_, HS3_, HS4_⟩ (fun hHeld => ?_)
                      clear hK K
                      refine norm_ (a' := ?_) ?_ ?_
                      rotate_left
                      ·show Act.put _ (some 220) _ = _
                       simp only [Act.put, z1, z2, z3, i64_w, i32_w]
                       rfl
                      refine pj_ (v := ?_) (a' := ?_) 23 (some 11) (bb 24 16777215) rfl rfl HT_ (by kernel_rfl) (fun _ _ _ h => h) (by rfl) ?_ ?_ ?_
                      rotate_left; (intro w'; go_simp; with_reducible rfl); rotate_left; (simp only [Act.put, z1, z2, z3, i64_w, i32_w]; rfl)
                      refine done_ (done_of HT_.out (by kernel_rfl)) ?_
                      try go_wp2
                      go_roundg k3
                      case measure => have := HK1.out; have := HK2.out; have := HK3.out; omega
                      case rel => exact ⟨(y375), (wrap64 (x12_3 + 1)), (by first | rfl | (simp; done) | (simp [*]; done)), H', ⟨by have := HK1.out; have := HK2.out; have := HK3.out; omega⟩, ⟨by (with_reducible repeat (first | apply Kd.R_alloc | apply Kd.R_drewN | apply Kd.R_drew)); exact Kd.R_mono HO_5.out (fun _ hk => by first | exact ⟨hk.1.1, hk.2⟩ | exact ⟨hk.2, hk.1⟩ | exact hk | exact ⟨hk.1.2, hk.2⟩ | exact ⟨hk.2, hk.1.1⟩ | exact ⟨hk.2, hk.1.2⟩ | exact ⟨hk.1.1, hk.1.2⟩ | exact ⟨hk.1.2, hk.1.1⟩)⟩, ⟨by (with_reducible repeat (first | apply Kd.R_alloc | apply Kd.R_drewN | apply Kd.R_drew)); exact Kd.R_mono HO_10.out (fun _ hk => by first | exact ⟨hk.1.1, hk.2⟩ | exact ⟨hk.2, hk.1⟩ | exact hk | exact ⟨hk.1.2, hk.2⟩ | exact ⟨hk.2, hk.1.1⟩ | exact ⟨hk.2, hk.1.2⟩ | exact ⟨hk.1.1, hk.1.2⟩ | exact ⟨hk.1.2, hk.1.1⟩)⟩, ⟨by (with_reducible repeat (first | apply Kd.R_alloc | apply Kd.R_drewN | apply Kd.R_drew)); exact Kd.R_mono HO377.out (fun _ hk => by first | exact ⟨hk.1.1.2, hk.1.2⟩ | exact ⟨hk.2, hk.1⟩ | exact hk | exact ⟨hk.1.1, hk.2⟩ | exact ⟨hk.1.2, hk.2⟩ | exact ⟨hk.2, hk.1.1⟩ | exact ⟨hk.2, hk.1.2⟩ | exact ⟨hk.1.1, hk.1.2⟩ | exact ⟨hk.1.2, hk.1.1⟩)⟩, ⟨by repeat (first | (with_reducible first | exact HB.out | apply below_alloc | apply pw_below_drewN | apply below_drew1) | exact HB.out)⟩⟩
                     ·rw [if_neg c63] at H
                      exact absurd H (by simp)
                    ·rw [if_neg c62] at H
                     exact absurd H (by simp)
                   ·rw [if_neg c61] at H
                    exact absurd H (by simp)
                  ·rw [if_neg c57] at H
                   exact absurd H (by simp)
                 ·rw [if_neg c56] at H
                  exact absurd H (by simp)
                ·rw [if_neg c55] at H
                 exact absurd H (by simp)
               ·rw [if_neg c54] at H
                exact absurd H (by simp)
              ·rw [if_neg c53] at H
               exact absurd H (by simp)
             ·rw [if_neg c49] at H
              exact absurd H (by simp)
            ·rw [if_neg c48] at H
             exact absurd H (by simp)
           ·rw [if_neg c47] at H
            exact absurd H (by simp)
          ·rw [if_neg c46] at H
           have c46b0 : decide (x12_3 < 64) = false := decide_eq_false c46
           clear c46
           have H' := Aside0.mk H
           clear H
           go_wp2
           go_loopg [17, 18] k3 (fun kq v17 v18 w' => ∃ (x17_4 : List Int) (x18_4 : Int), v18 = .int .i64 x18_4 ∧ Aside0 (aircheckref02_block.l3 kq l0 x11_3 x17_4 x18_4 = some r) ∧ Aside0 (kq ≤ k3) ∧ Aside0 (Kd.R (Kd.int .u32) 77 w' w.heap.size (fun k_ => some k_ ≠ (v17 : Value).ownBlock) u11 x11_3) ∧ Aside0 (Kd.R (Kd.int .u32) 77 w' w.heap.size (fun k_ => some k_ ≠ (u11 : Value).ownBlock) v17 x17_4) ∧ Aside0 (Below w.heap.size w w'))
           case atStart => exact ⟨(([] : List Int)), (0), (by first | rfl | (simp; done) | (simp [*]; done)), H', ⟨Nat.le_refl _⟩, ⟨by (with_reducible repeat (first | apply Kd.R_alloc | apply Kd.R_drewN | apply Kd.R_drew)); exact Kd.R_mono HO_11.out (fun _ hk => (by simp [Value.ownBlock]))⟩, ⟨by first | exact Kd.R_nil _ _ _ _ _ | exact Kd.N_nil _ _ _ _ _ | exact Kd.V_nil _ _ _ _ _ | exact Kd.Q_nil _ _ _ _ _ | exact Kd.S_nil _ _ _ _ _⟩, ⟨by repeat (first | (with_reducible first | exact HB.out | apply below_alloc | apply pw_below_drewN | apply below_drew1) | exact HB.out)⟩⟩
           case round =>
            clear H'
            try clear p2
            try clear p3
            try clear q3
            try clear hx3
            try clear qi3
            try clear c4
            try clear c5
            try clear c6
            try clear p6
            try clear p36
            try clear q36
            try clear hx36
            try clear qi36
            try clear p37
            try clear q37
            try clear hx37
            try clear qi37
            try clear c46
            try clear c46b0
            try clear c47
            try clear c48
            try clear c49
            try clear c53
            try clear c54
            try clear c55
            try clear c56
            try clear c57
            try clear c58
            try clear c61
            try clear c62
            try clear c63
            try clear p64
            try clear hx366_0
            try clear hx367_0
            try clear hx368_0
            try clear hx369_0
            try clear hx370_0
            try clear hx371_0
            try clear hx372_0
            try clear hx373_0
            try clear hx374_0
            try clear p366
            try clear p367
            try clear p368
            try clear p369
            try clear p370
            try clear p371
            try clear p372
            try clear p373
            try clear p374
            try clear q366
            try clear q367
            try clear q368
            try clear q369
            try clear q370
            try clear q371
            try clear q372
            try clear q373
            try clear q374
            obtain ⟨x17_4, x18_4, rfl, HA, HK4, HO_11, HO_17, HB⟩ := hrel
            cases gk with
            | zero => exact absurd HA.out (by simp [aircheckref02_block.l3])
            | succ k4 =>
             have H := HA.out
             clear HA
             simp only [aircheckref02_block.l3] at H
             by_cases c72 : x18_4 < 8
             ·rw [if_pos c72] at H
              have c72b0 : decide (x18_4 < 8) = true := decide_eq_true c72
              clear c72
              by_cases c73 : 0 ≤ x18_4
              ·rw [if_pos c73] at H
               have c73b0 : decide (0 ≤ x18_4) = true := decide_eq_true c73
               clear c73
               by_cases c74 : x18_4 < (l0.length : Int)
               ·rw [if_pos c74] at H
                have c74b0 : decide (x18_4 < (l0.length : Int)) = true := decide_eq_true c74
                clear c74
                by_cases c75 : x18_4 < (x11_3.length : Int)
                ·rw [if_pos c75] at H
                 have c75b0 : decide (x18_4 < (x11_3.length : Int)) = true := decide_eq_true c75
                 clear c75
                 by_cases c76 : x17_4.length < 35184372088832
                 ·rw [if_pos c76] at H
                  have LMc76 := Aside0.mk c76
                  clear c76
                  obtain ⟨y380, hy380⟩ : ∃ y_ : List Int, y_ = (x17_4 ++ [((rd l0 x18_4) + (rd x11_3 x18_4)) % 4294967296]) := ⟨_, rfl⟩
                  replace H : (aircheckref02_block.l3 k4 l0 x11_3 y380 (wrap64 (x18_4 + 1))) = some r := by first | (rw [hy380]; with_reducible exact H) | (have H2_ := (Option.bind_some _ _).symm.trans H; rw [hy380]; with_reducible exact H2_) | (have H2_ := (Option.bind_some _ _).symm.trans H; with_reducible exact H2_) | with_reducible exact H | (rw [hy380]; exact H) | exact H
                  have Ny380 := Aside0.mk hy380
                  clear hy380
                  have H' := Aside0.mk H
                  clear H
                  try go_wp2
                  have n0_ := Aside0.mk (Kd.R_drew HO_11.out)
                  have n1_ := Aside0.mk (Kd.R_drew HO_17.out)
                  have n2_ := Aside0.mk (below_drew1 HB.out)
                  clear HO_11
                  clear HO_17
                  clear HB
                  have HO_11 := n0_
                  have HO_17 := n1_
                  have HB := n2_
                  clear n0_ n1_ n2_
                  have p378 : 0 ≤ (x18_4 : Int) := of_decide_eq_true (by first | (with_reducible assumption) | assumption)
                  have q378 : x18_4 < (l0.length : Int) := of_decide_eq_true (by first | (with_reducible assumption) | assumption)
                  obtain ⟨ad378, e378, hx378_0⟩ := Kd.at_int HR0.out x18_4 p378 q378
                  have hw378_0 := hx378_0
                  cases e378
                  replace hx378_0 := (HB.out.cell (World.block_lt_of_cell? w _ hx378_0)).trans hx378_0
                  replace p378 := eq_true p378
                  replace q378 := eq_true q378
                  obtain ⟨Ao78, co78, eo78⟩ := Kd.R_slice HO_11.out
                  (first | subst eo78 | (injection eo78 with f1_ f2_ f3_; have f4_ := f1_.symm; have f5_ := f3_.symm; clear f1_ f2_ f3_; subst f4_; subst f5_))
                  have p379 : 0 ≤ (x18_4 : Int) := of_decide_eq_true (by first | (with_reducible assumption) | assumption)
                  have q379 : x18_4 < (x11_3.length : Int) := of_decide_eq_true (by first | (with_reducible assumption) | assumption)
                  obtain ⟨ad379, e379, hx379_0⟩ := Kd.at_int (Kd.R_reads' HO_11.out).2.2 x18_4 p379 q379
                  cases e379
                  replace p379 := eq_true p379
                  replace q379 := eq_true q379
                  refine start_ (n := 13) (S := fun w' => w'.cell? (ad378.add (x18_4).toNat) = some (.int .u32 (rd l0 x18_4)) ∧ w'.cell? (ad379.add (x18_4).toNat) = some (.int .u32 (rd x11_3 x18_4))) (ds := [10, 11]) (bb 13 0) (by kernel_rfl) rfl rfl ⟨((HB.out.cell (World.block_lt_of_cell? w _ hw378_0)).trans hw378_0), hx379_0⟩ (fun hHeld => ?_); refine with_tabW aircheckref02_block.tab27 aircheckref02_block.bits27 (fun HT_ HW_ => ?_)
                  generalize wr.drew = w77 at HO_11 HO_17 HB hx378_0 hx379_0 hHeld ⊢
                  refine pj_ (v := ?_) (a' := ?_) 0 (some 225) (bb 13 1) rfl rfl HT_ (by kernel_rfl) (fun _ _ _ h => h) (by rfl) ?_ ?_ ?_
                  rotate_left; (intro w'; go_simp; with_reducible rfl); rotate_left; (simp only [Act.put, z1, z2, z3, i64_w, i32_w]; rfl)
                  refine pj_ (v := ?_) (a' := ?_) 1 (some 226) (bb 13 3) rfl rfl HT_ (by kernel_rfl) (fun _ _ _ h => h) (by rfl) ?_ ?_ ?_
                  rotate_left; (intro w'; go_simp; with_reducible rfl); rotate_left; (simp only [Act.put, z1, z2, z3, i64_w, i32_w]; rfl)
                  refine pj_ (v := ?_) (a' := ?_) 2 (some 227) (bb 13 7) rfl rfl HT_ (by kernel_rfl) (fun _ _ _ h => h) (by rfl) ?_ ?_ ?_
                  rotate_left; (intro w'; go_simp; with_reducible rfl); rotate_left; (simp only [Act.put, z1, z2, z3, i64_w, i32_w]; rfl)
                  refine pj_ (v := ?_) (a' := ?_) 3 (some 228) (bb 13 15) rfl rfl HT_ (by kernel_rfl) (fun _ _ _ h => h) (by rfl) ?_ ?_ ?_
                  rotate_left; (intro w'; go_simp; with_reducible rfl); rotate_left; (simp only [Act.put, z1, z2, z3, i64_w, i32_w]; rfl)
                  refine pj_ (v := ?_) (a' := ?_) 5 (some 230) (bb 13 47) rfl rfl HT_ (by kernel_rfl) (fun _ _ _ h => h) (by rfl) ?_ ?_ ?_
                  rotate_left; (intro w'; go_simp; with_reducible rfl); rotate_left; (simp only [Act.put, z1, z2, z3, i64_w, i32_w]; rfl)
                  refine pj_ (v := ?_) (a' := ?_) 6 (some 231) (bb 13 111) rfl rfl HT_ (by kernel_rfl) (fun _ _ _ h => h) (by rfl) ?_ ?_ ?_
                  rotate_left; (intro w'; go_simp; with_reducible rfl); rotate_left; (simp only [Act.put, z1, z2, z3, i64_w, i32_w]; rfl)
                  refine pj_ (v := ?_) (a' := ?_) 7 (some 232) (bb 13 239) rfl rfl HT_ (by kernel_rfl) (fun _ _ _ h => h) (by rfl) ?_ ?_ ?_
                  rotate_left; (intro w'; go_simp; with_reducible rfl); rotate_left; (simp only [Act.put, z1, z2, z3, i64_w, i32_w]; rfl)
                  refine tj_ (v := ?_) (a' := ?_) 4 (some 229) (bb 13 255) rfl rfl HT_ HW_ (by kernel_rfl) (fun _ _ _ h => h) (by rfl) hHeld ?_ ?_ ?_
                  rotate_left; (rintro w' ⟨s0, s1⟩; go_simp; with_reducible rfl); rotate_left; (simp only [Act.put, z1, z2, z3, i64_w, i32_w]; rfl)
                  refine tj_ (v := ?_) (a' := ?_) 8 (some 233) (bb 13 511) rfl rfl HT_ HW_ (by kernel_rfl) (fun _ _ _ h => h) (by rfl) hHeld ?_ ?_ ?_
                  rotate_left; (rintro w' ⟨s0, s1⟩; go_simp; with_reducible rfl); rotate_left; (simp only [Act.put, z1, z2, z3, i64_w, i32_w]; rfl)
                  refine pj_ (v := ?_) (a' := ?_) 9 (some 234) (bb 13 1023) rfl rfl HT_ (by kernel_rfl) (fun _ _ _ h => h) (by rfl) ?_ ?_ ?_
                  rotate_left; (intro w'; go_simp; with_reducible rfl); rotate_left; (simp only [Act.put, z1, z2, z3, i64_w, i32_w]; rfl)
                  refine last_ (i := 10) (N := some 235) (bb 13 2047) rfl rfl (one_of HT_.out (by kernel_rfl)) (by decide) (fun K hK => ?_)
                  refine value_ (w1 := ?_) (v := ?_) (by rfl) rfl ?_ ?_
                  rotate_left 2
                  ·go_simp
                   constructor
                   ·rfl
                   ·rfl
                  refine hK.out _ _ ?_
                  clear hK K
                  refine norm_ (a' := ?_) ?_ ?_
                  rotate_left
                  ·show Act.put _ (some 235) _ = _
                   simp only [Act.put, z1, z2, z3, i64_w, i32_w]
                   rfl
                  refine last_ (i := 11) (N := some 236) (bb 13 4095) rfl rfl (one_of HT_.out (by kernel_rfl)) (by decide) (fun K hK => ?_)
                  refine Kd.R_append_step (Kd.int .u32) (w0 := w) w.heap.size (by rfl) (.tmp 225) (.tmp 235) 78 77 (.int .u32 0) 4 rfl Tryd.underlying78 info77 rfl (by decide) (by omega) u17 x17_4 (((rd l0 x18_4) + (rd x11_3 x18_4)) % 4294967296) [.int .u32 (((rd l0 x18_4) + (rd x11_3 x18_4)) % 4294967296)] (fun k_ => some k_ ≠ (.slice (some ad379) x11_3.length co78 : Value).ownBlock) (fun _ => False) rfl rfl ?aP (fun _ hk => hk.elim) ?aF ?aO ?aB ?aS ?aL ?_
                  (case aP => exact rfl)
                  (case aB => exact (by repeat (first | (with_reducible first | exact HB.out | apply below_alloc | apply pw_below_drewN | apply below_drew1) | exact HB.out)))
                  (case aF => exact (fun k_ hk => Kd.fresh' (Kd.R_lt (by (with_reducible repeat (first | apply Kd.R_alloc | apply Kd.R_drewN | apply Kd.R_drew)); exact HO_11.out)) k_ hk))
                  (case aO => exact (by (with_reducible repeat (first | apply Kd.R_alloc | apply Kd.R_drewN | apply Kd.R_drew)); exact HO_17.out))
                  (case aS => exact (below_size (by repeat (first | (with_reducible first | exact HB.out | apply below_alloc | apply pw_below_drewN | apply below_drew1) | exact HB.out))))
                  (case aL => have := LMc76.out; omega)
                  intro v381 w79 ho hb hg hat
                  rw [← Ny380.out] at ho
                  have n0_ := Aside0.mk (Kd.R_after (ok := (fun _ => True)) (by (with_reducible repeat (first | apply Kd.R_alloc | apply Kd.R_drewN | apply Kd.R_drew)); exact Kd.R_mono HO_11.out (fun _ hk => ⟨trivial, hk⟩)) hg hat)
                  have n1_ := Aside0.mk (hb)
                  have n2_ := Aside0.mk (ho)
                  clear HO_11
                  clear HB
                  clear HO_17
                  have HO_11 := n0_
                  have HB := n1_
                  have HO382 := n2_
                  clear n0_ n1_ n2_
                  clear ho hb hg hat
                  refine hK.out _ _ ?_
                  clear hK K
                  refine norm_ (a' := ?_) ?_ ?_
                  rotate_left
                  ·show Act.put _ (some 236) _ = _
                   simp only [Act.put, z1, z2, z3, i64_w, i32_w]
                   rfl
                  refine pj_ (v := ?_) (a' := ?_) 12 (some 17) (bb 13 8191) rfl rfl HT_ (by kernel_rfl) (fun _ _ _ h => h) (by rfl) ?_ ?_ ?_
                  rotate_left; (intro w'; go_simp; with_reducible rfl); rotate_left; (simp only [Act.put, z1, z2, z3, i64_w, i32_w]; rfl)
                  refine done_ (done_of HT_.out (by kernel_rfl)) ?_
                  try go_wp2
                  go_roundg k4
                  case measure => have := HK1.out; have := HK2.out; have := HK3.out; have := HK4.out; omega
                  case rel => exact ⟨(y380), (wrap64 (x18_4 + 1)), (by first | rfl | (simp; done) | (simp [*]; done)), H', ⟨by have := HK1.out; have := HK2.out; have := HK3.out; have := HK4.out; omega⟩, ⟨by (with_reducible repeat (first | apply Kd.R_alloc | apply Kd.R_drewN | apply Kd.R_drew)); exact Kd.R_mono HO_11.out (fun _ hk => hk.2)⟩, ⟨by (with_reducible repeat (first | apply Kd.R_alloc | apply Kd.R_drewN | apply Kd.R_drew)); exact HO382.out⟩, ⟨by repeat (first | (with_reducible first | exact HB.out | apply below_alloc | apply pw_below_drewN | apply below_drew1) | exact HB.out)⟩⟩
                 ·rw [if_neg c76] at H
                  exact absurd H (by simp)
                ·rw [if_neg c75] at H
                 exact absurd H (by simp)
               ·rw [if_neg c74] at H
                exact absurd H (by simp)
              ·rw [if_neg c73] at H
               exact absurd H (by simp)
             ·rw [if_neg c72] at H
              have c72b0 : decide (x18_4 < 8) = false := decide_eq_false c72
              clear c72
              obtain rfl := Option.some.inj H
              go_wp2
              go_ret
              exact ⟨_, by first | rfl | (simp [errW_none, errW_some] <;> rfl) | (simp [*, errW_none, errW_some] <;> rfl), by (with_reducible repeat (first | apply Kd.R_alloc | apply Kd.R_drewN | apply Kd.R_drew)); exact Kd.R_mono HO_17.out (fun _ hk => trivial), by repeat (first | (with_reducible first | exact HB.out | apply below_alloc | apply pw_below_drewN | apply below_drew1) | exact HB.out)⟩
       ·rw [if_neg c43] at H
        exact absurd H (by simp)
end Go.Proofs.YtooogaogbffjfaaDoor.PB
end
