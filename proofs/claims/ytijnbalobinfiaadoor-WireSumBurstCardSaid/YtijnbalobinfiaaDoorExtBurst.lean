import Derived.Test.YtijnbalobinfiaaDoorPWx6
import Derived.Test.YtijnbalobinfiaaDoorPWx7
import Derived.Test.YtijnbalobinfiaaDoorPWx0
import Derived.Test.YtijnbalobinfiaaDoorWireCut
import Derived.Test.YtijnbalobinfiaaDoorBurst
import Derived.Laws.BytesArg
import Derived.Lib.ConvBytes
import Derived.Lib.Hide
/-
  The walk of WireSumBurst.
-/
namespace Go.Proofs.YtijnbalobinfiaaDoor.PW
open Go.Proofs.YtijnbalobinfiaaDoor.Ext
attribute [local go_sem] u32_signed u32_max
open Go.RowKit Go.Proofs.YtijnbalobinfiaaDoorW.PrintWords Go.Proofs.YtijnbalobinfiaaDoorW.PrintLast Go.Proofs.YtijnbalobinfiaaDoorW.PrintMore
open Go.Proofs.YtijnbalobinfiaaDoor.WireSpec
attribute [local go_sem] max2_int min2_int max_two min_two max_three min_three max_four min_four
set_option linter.unusedVariables false
set_option linter.unusedSimpArgs false

/-- bytes in memory that may be written -/
def RowAt (w : World) (g : Nat) (l : List Nat) : Prop := ∀ j : Nat, j < l.length → w.cell? ⟨g, j, none⟩ = some (.int .u8 ((l.getD j 0 : Nat) : Int)) ∧ w.frozen? ⟨g, j, none⟩ = false
theorem RowAt.below {w w' : World} {g : Nat} {l : List Nat} (h : RowAt w g l) (hb : Below w.heap.size w w') (hg : g < w.heap.size) : RowAt w' g l := fun j hj => ⟨(hb.cell (p := ⟨g, j, none⟩) hg).trans (h j hj).1, (hb.frozen (p := ⟨g, j, none⟩) hg).trans (h j hj).2⟩
theorem rowAt_bytes (w : World) (e : TypeId) (s : ByteArray) : RowAt (Lib.bytesWorld w e s) w.heap.size (nat s) := by
  intro j hj
  rw [nat_length] at hj
  refine ⟨?_, ?_⟩
  · rw [Lib.bytesWorld_cell w e s j hj]
    have : j < s.data.toList.length := by simpa using hj
    simp [nat, List.getD_eq_getElem?_getD, List.getElem?_eq_getElem this]
  · have h1 := Lib.bytesWorld_at_new w e s
    have h2 : j < (Lib.bytesCells w e s).size := by simp [Lib.bytesCells]; omega
    simp [World.frozen?, h1]
    omega
/-- what the loop keeps: j bits have been looked at -/
def Burst (S : List Nat) (B c g : Nat) (w0 : World) (j : Nat) (ch : Bool) (wr : World) : Prop :=
  ch = decide (B % 2 ^ j ≠ 0) ∧ ∃ l : List Nat, l.length = S.length ∧ (∀ b ∈ l, b < 256) ∧ Crc.num l = Crc.num S ^^^ ((B % 2 ^ j) <<< c) ∧ RowAt wr g l ∧ g < wr.heap.size ∧ Below w0.heap.size w0 wr
theorem RowAt.set {w : World} {g : Nat} {l : List Nat} (h : RowAt w g l) (q x : Nat) (hq : q < l.length) : RowAt (w.setCell ⟨g, q, none⟩ (.int .u8 (x : Int))) g (l.set q x) := by
  intro j hj
  rw [List.length_set] at hj
  refine ⟨?_, by rw [World.frozen?_setCell]; exact (h j hj).2⟩
  by_cases e : j = q
  · subst e
    rw [World.cell?_setCell_same _ _ _ (h j hj).1]
    simp [List.getD_eq_getElem?_getD, hj]
  · rw [World.cell?_setCell_other _ _ _ _ (by intro c; injection c with _ c2 _; exact e c2.symm), (h j hj).1]
    simp [List.getD_eq_getElem?_getD, List.getElem?_set, Ne.symm e]
theorem conv_row {w : World} {g n cap : Nat} {l : List Nat} (h : RowAt w g l) (hlb : ∀ b ∈ l, b < 256) (hln : l.length = n) :
    Go.Sem.run Tryd.prog (Go.convert 38 9 (.slice (some ⟨g, 0, none⟩) n cap)) w = .ok (.string (str l)) w := by
  have := run_convert_bytes_arg (P := Tryd.prog) (w := w) 38 5 Tryd.underlying38 Tryd.underlying5 g 0 n cap (l.map fun x : Nat => (x : Int)) (by simpa using hln) (fun i hi => by
    rw [Nat.zero_add, (h i (by omega)).1]
    simp [List.getD_eq_getElem?_getD, List.getElem?_eq_getElem (show i < l.length by omega)]) 9 Tryd.underlying9
  rw [this]
  congr 2
  unfold strOfNums str
  rw [List.map_map]
  rfl
theorem burst_off {S : List Nat} {B c g : Nat} {w0 wr : World} {j : Nat} {x : Bool} (h : Burst S B c g w0 j x wr) (hb : ¬ B / 2 ^ j % 2 = 1) : Burst S B c g w0 (j + 1) x wr := by
  unfold Burst at *
  rw [bit_off hb]
  exact h
theorem burst_on {S : List Nat} {B c g q r : Nat} {w0 wr : World} {j : Nat} {l : List Nat} (hl : l.length = S.length) (hlb : ∀ b ∈ l, b < 256) (hn : Crc.num l = Crc.num S ^^^ ((B % 2 ^ j) <<< c)) (hr : RowAt wr g l) (hg : g < wr.heap.size) (hbe : Below w0.heap.size w0 wr) (h0 : w0.heap.size ≤ g)
    (hq : q < l.length) (hr8 : r < 8) (he : c + j = 8 * q + r) (hb : B / 2 ^ j % 2 = 1) :
    Burst S B c g w0 (j + 1) true (wr.setCell ⟨g, q, none⟩ (.int .u8 (Go.bits .xor .u8 ((l.getD q 0 : Nat) : Int) (IntKind.u8.wrap (2 ^ r))))) := by
  have hv : l.getD q 0 < 256 := by
    rw [List.getD_eq_getElem?_getD, List.getElem?_eq_getElem hq]
    exact hlb _ (List.getElem_mem _)
  refine ⟨by simpa using on_pos hb, l.set q (l.getD q 0 ^^^ 2 ^ r), by rw [List.length_set]; exact hl, ?_, num_step l S B c j q r hq he hn hb, ?_, ?_, hbe.setCell h0 _⟩
  · intro b hbm
    rcases List.mem_or_eq_of_mem_set hbm with h | h
    · exact hlb b h
    · rw [h]; exact flip_lt _ r hv hr8
  · rw [u8_flip _ r hv hr8]
    exact hr.set q _ hq
  · rw [World.setCell]
    simpa using hg
theorem bit_nat {B j : Nat} (h : ((B : Int) / 2 ^ j).tmod 2 == 1) : B / 2 ^ j % 2 = 1 := by
  have e : ((B : Int) / 2 ^ j) = ((B / 2 ^ j : Nat) : Int) := by simp
  rw [e, show Int.tmod ((B / 2 ^ j : Nat) : Int) 2 = ((B / 2 ^ j % 2 : Nat) : Int) from rfl] at h
  have := eq_of_beq h
  omega
theorem nat_bit {B j : Nat} (h : B / 2 ^ j % 2 = 1) : ((B : Int) / 2 ^ j).tmod 2 == 1 := by
  have e : ((B : Int) / 2 ^ j) = ((B / 2 ^ j : Nat) : Int) := by simp
  rw [e, show Int.tmod ((B / 2 ^ j : Nat) : Int) 2 = ((B / 2 ^ j % 2 : Nat) : Int) from rfl, h]
  rfl
theorem below_drawn {B : Nat} {w w1 w2 : World} (h : Below B w w1) (hd : Drawn0 w1 w2) : Below B w w2 := by
  obtain ⟨⟨m, rfl⟩⟩ := hd
  exact pw_below_drewN h m
set_option maxHeartbeats 4000000 in
theorem burst_walk (a0 : ByteArray) (a1 : Int) (B : Nat) (w : World) (hG : GL w) (hs : a0.size ≤ 140737488351232) (h1 : -9223372036854775808 ≤ a1 ∧ a1 ≤ 9223372036854775807) (hB : B < 4294967296) :
    Calls Tryd.prog 8 #[.string a0, .int .i64 a1, .int .u32 (B : Int)] w fun e w' => e = .returned (.bool true) ∧ Below w.heap.size w w' := by
  have kb := fun s W => print_bytes (P := Tryd.prog) 9 38 5 Tryd.underlying9 Tryd.underlying38 Tryd.underlying5 s W
  have hsane := sane_is 20 (by decide)
  go_enter Tryd.func8, Tryd.ntmps8
  obtain ⟨n, hn, hn1, hn2, hn3⟩ := cut_is a0 300
  have hmn : (if (300 : Int) < (a0.size : Int) then (300 : Int) else (a0.size : Int)) = (n : Int) := hn
  have c0 : (0 ≤ (n : Int)) = True := eq_true (by omega)
  have c1 : ((n : Int) ≤ (a0.size : Int)) = True := eq_true (by omega)
  by_cases hz : n = 0 ∨ B = 0
  · have c2 : ((n : Int) == 0 || (B : Int) == 0) = true := by
      rcases hz with rfl | rfl <;> simp
    go_wp2_with (first | ((with_reducible refine gate_callee (f := 10) rfl ?_); refine goesL_ (some 13) rfl rfl Tryd.func10 (by kernel_rfl) rfl #[] rfl (by (try simp only [List.map_toArray, List.map_cons, List.map_nil]); first | done | rfl | (simp only [List.length_drop, List.length_take]; rfl)) ?_; (with_reducible refine (airchecklaw01_sane.calls 20 true _ hG hsane).mono ?_); rintro e w1 ⟨rfl, hb1⟩; refine ⟨_, rfl, ?_⟩))
    all_goals (go_ret; exact ⟨rfl, bytes_below hb1 (below_size hb1) _ _⟩)
  have hn0 : 0 < n := by omega
  have c2 : ((n : Int) == 0) = false := by simp; omega
  have c3 : ((B : Int) == 0) = false := by simp; omega
  obtain ⟨c, hc, c00, c01⟩ := pick_is h1.1 h1.2 (n := 8 * (n : Int)) (by omega)
  obtain ⟨c, rfl⟩ := Int.eq_ofNat_of_zero_le c00
  go_wp2_with (first | ((with_reducible refine gate_callee (f := 10) rfl ?_); refine goesL_ (some 13) rfl rfl Tryd.func10 (by kernel_rfl) rfl #[] rfl (by (try simp only [List.map_toArray, List.map_cons, List.map_nil]); first | done | rfl | (simp only [List.length_drop, List.length_take]; rfl)) ?_; (with_reducible refine (airchecklaw01_sane.calls 20 true _ hG hsane).mono ?_); rintro e w1 ⟨rfl, hb1⟩; refine ⟨_, rfl, ?_⟩) | ((with_reducible refine gate_callee (f := 14) rfl ?_); refine goesL_ (some 32) rfl rfl Tryd.func14 (by kernel_rfl) rfl #[.int .i64 a1, .int .i64 (8 * (n : Int))] rfl (by (try simp only [List.map_toArray, List.map_cons, List.map_nil]); first | done | rfl | (simp only [List.length_drop, List.length_take]; rfl)) ?_; (with_reducible refine (airchecklaw01_pick.calls a1 (8 * (n : Int)) (c : Int) _ hc).mono ?_); rintro e w2 ⟨rfl, hb2⟩; refine ⟨_, rfl, ?_⟩))
  have hb2' : Below w.heap.size w w2 := below_drawn (bytes_below hb1 (below_size hb1) _ _) hb2
  have hg0 : w.heap.size ≤ w1.heap.size := below_size hb1
  have hg2 : w1.heap.size < w2.heap.size := by
    have := hb2.below.size
    rw [Lib.bytesWorld_size] at this
    omega
  have hrow : RowAt w2 w1.heap.size (nat (a0.extract 0 n)) := (rowAt_bytes w1 5 _).below hb2.below (by rw [Lib.bytesWorld_size]; omega)
  generalize w1.heap.size = g at *
  generalize hS : nat (a0.extract 0 n) = S at *
  have hSl : S.length = n := by rw [← hS, nat_length, hn3]
  clear hb1 hb2
  go_loopw [10, 11] (fun ch i wr => ∃ (j : Nat) (x : Bool), j ≤ 32 ∧ c + j ≤ 8 * n ∧ ch = .bool x ∧ i = .int .i64 (j : Int) ∧ Hid (Burst S B c g w j x wr)) (fun ch i wr => 32 - (intOf i).toNat)
  case atStart => exact ⟨0, false, by omega, by omega, rfl, rfl, Lib.hid ⟨by simp [Nat.mod_one], S, rfl, by rw [← hS]; exact nat_lt _, by simp [Nat.mod_one], hrow, hg2, hb2'⟩⟩
  case round =>
    obtain ⟨j, x, hj, hcj, rfl, rfl, HB⟩ := hrel
    by_cases hlt : j < 32 ∧ c + j < 8 * n
    · have d1 : decide ((j : Int) < 32) = true := decide_eq_true (by omega)
      have d2 : decide ((c : Int) + (j : Int) < 8 * (n : Int)) = true := decide_eq_true (by omega)
      obtain ⟨hx, l, hl, hlb, hnum, hrw, hgw, hbw⟩ := HB.out
      obtain ⟨q, hq⟩ : ∃ q : Nat, q = (c + j) / 8 := ⟨_, rfl⟩
      obtain ⟨r, hr⟩ : ∃ r : Nat, r = (c + j) % 8 := ⟨_, rfl⟩
      have hqn : q < n := by omega
      have e1 : Int.tdiv ((c : Int) + (j : Int)) 8 = (q : Int) := by rw [show ((c : Int) + (j : Int)) = ((c + j : Nat) : Int) by omega]; rw [hq]; rfl
      have e1' : ((c : Int) + (j : Int)) / 8 = (q : Int) := by omega
      have e2 : Int.tmod ((c : Int) + (j : Int)) 8 = (r : Int) := by rw [show ((c : Int) + (j : Int)) = ((c + j : Nat) : Int) by omega]; rw [hr]; rfl
      have e2' : ((c : Int) + (j : Int)) % 8 = (r : Int) := by omega
      have e3 : ((q : Int) < (n : Int)) = True := eq_true (by omega)
      have e4 : (0 ≤ (q : Int)) = True := eq_true (by omega)
      have e5 : (0 ≤ (r : Int)) = True := eq_true (by omega)
      obtain ⟨hcd0, hfd0⟩ := hrw q (by omega)
      generalize hv : l.getD q 0 = v at hcd0
      have hcd : wr.drew.cell? ⟨g, q, none⟩ = some (.int .u8 (v : Int)) := hcd0
      have hfd : wr.drew.frozen? ⟨g, q, none⟩ = false := hfd0
      have hrd : RowAt wr.drew g l := hrw
      have hgd : g < wr.drew.heap.size := hgw
      have hbd : Below w.heap.size w wr.drew := below_drew1 hbw
      clear hcd0 hfd0 hrw hgw hbw
      have HX := Lib.hid (And.intro hx (And.intro hl (And.intro hlb (And.intro hnum (And.intro hq (And.intro hr (And.intro hv (And.intro hrd (And.intro hgd hbd)))))))))
      clear hx hl hlb hnum hq hr hv hrd hgd hbd
      by_cases hbit : ((B : Int) / 2 ^ j).tmod 2 == 1
      · go_wp2
        have ew1 : wrap64 (q : Int) = (q : Int) := w64 (by omega) (by omega)
        have ew2 : wrap64 (r : Int) = (r : Int) := w64 (by have := HX.out.2.2.2.2.2.1; omega) (by have := HX.out.2.2.2.2.2.1; omega)
        refine start_ (n := 14) (S := fun w' => w'.cell? ⟨g, q, none⟩ = some (.int .u8 (v : Int))) (ds := [13]) #[false, false, false, false, false, false, false, false, false, false, false, false, false, false] (by kernel_rfl) rfl rfl hcd (fun hHeld => ?_)
        generalize wr.drew = wd at *
        refine pure_ (i := 0) (N := some 54) (v := ?_) (a' := ?_) #[true, false, false, false, false, false, false, false, false, false, false, false, false, false] rfl rfl (by kernel_rfl) (fun _ _ _ h => h) (Or.inl ⟨by rfl, ?_⟩) ?_ ?_
        rotate_left
        · intro w'
          go_simp
          with_reducible rfl
        rotate_left
        · simp only [Act.put, List.setIfInBounds_toArray, List.set_cons_zero, List.set_cons_succ, i64_w, i32_w]
          rfl
        refine pure_ (i := 1) (N := some 55) (v := ?_) (a' := ?_) #[true, true, false, false, false, false, false, false, false, false, false, false, false, false] rfl rfl (by kernel_rfl) (fun _ _ _ h => h) (Or.inl ⟨by rfl, ?_⟩) ?_ ?_
        rotate_left
        · intro w'
          go_simp
          with_reducible rfl
        rotate_left
        · simp only [Act.put, List.setIfInBounds_toArray, List.set_cons_zero, List.set_cons_succ, i64_w, i32_w]
          rfl
        refine pure_ (i := 2) (N := some 56) (v := ?_) (a' := ?_) #[true, true, true, false, false, false, false, false, false, false, false, false, false, false] rfl rfl (by kernel_rfl) (fun _ _ _ h => h) (Or.inl ⟨by rfl, ?_⟩) ?_ ?_
        rotate_left
        · intro w'
          go_simp
          with_reducible rfl
        rotate_left
        · simp only [Act.put, List.setIfInBounds_toArray, List.set_cons_zero, List.set_cons_succ, i64_w, i32_w]
          rfl
        refine pure_ (i := 3) (N := some 57) (v := ?_) (a' := ?_) #[true, true, true, true, false, false, false, false, false, false, false, false, false, false] rfl rfl (by kernel_rfl) (fun _ _ _ h => h) (Or.inl ⟨by rfl, ?_⟩) ?_ ?_
        rotate_left
        · intro w'
          go_simp
          with_reducible rfl
        rotate_left
        · simp only [Act.put, List.setIfInBounds_toArray, List.set_cons_zero, List.set_cons_succ, i64_w, i32_w]
          rfl
        refine pure_ (i := 4) (N := some 58) (v := ?_) (a' := ?_) #[true, true, true, true, true, false, false, false, false, false, false, false, false, false] rfl rfl (by kernel_rfl) (fun _ _ _ h => h) (Or.inl ⟨by rfl, ?_⟩) ?_ ?_
        rotate_left
        · intro w'
          go_simp
          with_reducible rfl
        rotate_left
        · simp only [Act.put, List.setIfInBounds_toArray, List.set_cons_zero, List.set_cons_succ, i64_w, i32_w]
          rfl
        refine pure_ (i := 5) (N := some 59) (v := ?_) (a' := ?_) #[true, true, true, true, true, true, false, false, false, false, false, false, false, false] rfl rfl (by kernel_rfl) (fun _ _ _ h => h) (Or.inl ⟨by rfl, ?_⟩) ?_ ?_
        rotate_left
        · intro w'
          go_simp
          with_reducible rfl
        rotate_left
        · simp only [Act.put, List.setIfInBounds_toArray, List.set_cons_zero, List.set_cons_succ, i64_w, i32_w]
          rfl
        refine pure_ (i := 6) (N := some 60) (v := ?_) (a' := ?_) #[true, true, true, true, true, true, true, false, false, false, false, false, false, false] rfl rfl (by kernel_rfl) (fun _ _ _ h => h) (Or.inl ⟨by rfl, ?_⟩) ?_ ?_
        rotate_left
        · intro w'
          go_simp
          with_reducible rfl
        rotate_left
        · simp only [Act.put, List.setIfInBounds_toArray, List.set_cons_zero, List.set_cons_succ, i64_w, i32_w]
          rfl
        refine pure_ (i := 8) (N := some 62) (v := ?_) (a' := ?_) #[true, true, true, true, true, true, true, false, true, false, false, false, false, false] rfl rfl (by kernel_rfl) (fun _ _ _ h => h) (Or.inl ⟨by rfl, ?_⟩) ?_ ?_
        rotate_left
        · intro w'
          go_simp
          with_reducible rfl
        rotate_left
        · simp only [Act.put, List.setIfInBounds_toArray, List.set_cons_zero, List.set_cons_succ, i64_w, i32_w]
          rfl
        refine pure_ (i := 9) (N := some 63) (v := ?_) (a' := ?_) #[true, true, true, true, true, true, true, false, true, true, false, false, false, false] rfl rfl (by kernel_rfl) (fun _ _ _ h => h) (Or.inl ⟨by rfl, ?_⟩) ?_ ?_
        rotate_left
        · intro w'
          go_simp
          with_reducible rfl
        rotate_left
        · simp only [Act.put, List.setIfInBounds_toArray, List.set_cons_zero, List.set_cons_succ, i64_w, i32_w]
          rfl
        clear ew1 ew2
        refine pure_ (i := 10) (N := some 64) (v := ?_) (a' := ?_) #[true, true, true, true, true, true, true, false, true, true, true, false, false, false] rfl rfl (by kernel_rfl) (fun _ _ _ h => h) (Or.inl ⟨by rfl, ?_⟩) ?_ ?_
        rotate_left
        · intro w'
          go_simp
          with_reducible rfl
        rotate_left
        · simp only [Act.put, List.setIfInBounds_toArray, List.set_cons_zero, List.set_cons_succ, i64_w, i32_w]
          rfl
        refine take_ (i := 7) (N := some 61) (v := ?_) (a' := ?_) #[true, true, true, true, true, true, true, true, true, true, true, false, false, false] rfl rfl (by kernel_rfl) (fun _ _ _ h => h) (Or.inl ⟨by rfl, ?_⟩) hHeld ?_ ?_
        rotate_left
        · intro w' hS_
          go_simp
          with_reducible rfl
        rotate_left
        · simp only [Act.put, List.setIfInBounds_toArray, List.set_cons_zero, List.set_cons_succ, i64_w, i32_w]
          rfl
        refine pure_ (i := 11) (N := some 65) (v := ?_) (a' := ?_) #[true, true, true, true, true, true, true, true, true, true, true, true, false, false] rfl rfl (by kernel_rfl) (fun _ _ _ h => h) (Or.inl ⟨by rfl, ?_⟩) ?_ ?_
        rotate_left
        · intro w'
          go_simp
          with_reducible rfl
        rotate_left
        · simp only [Act.put, List.setIfInBounds_toArray, List.set_cons_zero, List.set_cons_succ, i64_w, i32_w]
          rfl
        have ew1 : wrap64 (q : Int) = (q : Int) := w64 (by omega) (by omega)
        refine pure_ (i := 12) (N := some 66) (v := ?_) (a' := ?_) #[true, true, true, true, true, true, true, true, true, true, true, true, true, false] rfl rfl (by kernel_rfl) (fun _ _ _ h => h) (Or.inl ⟨by rfl, ?_⟩) ?_ ?_
        rotate_left
        · intro w'
          go_simp
          with_reducible rfl
        rotate_left
        · simp only [Act.put, List.setIfInBounds_toArray, List.set_cons_zero, List.set_cons_succ, i64_w, i32_w]
          rfl
        clear ew1
        refine last_ (i := 13) (N := none) #[true, true, true, true, true, true, true, true, true, true, true, true, true, true] rfl rfl (by kernel_rfl) (by decide) (fun K hK => ?_)
        refine skip_ (w1 := ?_) (by rfl) rfl ?_ ?_
        rotate_left
        · go_simp
          rfl
        refine hK.out _ _ ?_
        clear hK K
        refine done_ (by kernel_rfl) ?_
        go_wp2
        obtain ⟨hx, hl, hlb, hnum, hq, hr, hv, hrd, hgd, hbd⟩ := HX.out
        have hbit' : B / 2 ^ j % 2 = 1 := bit_nat hbit
        refine ⟨⟨j + 1, true, by omega, by omega, rfl, by rw [Int.natCast_add]; rfl, Lib.hid ?_⟩, by simp [intOf]; omega⟩
        rw [← hv]
        exact burst_on hl hlb hnum hrd hgd hbd hg0 (by omega) (by omega) (by omega) hbit'
      · have hbf : (((B : Int) / 2 ^ j).tmod 2 == 1) = false := by simpa using hbit
        go_wp2
        refine ⟨⟨j + 1, x, by omega, by omega, rfl, by rw [Int.natCast_add]; rfl, Lib.hid (burst_off HB.out (fun h => hbit (nat_bit h)))⟩, by simp [intOf]; omega⟩
    · obtain ⟨hx, l, hl, hlb, hnum, hrw, hgw, hbw⟩ := HB.out
      have hln : l.length = n := by omega
      have hcv : Go.Sem.run Tryd.prog (Go.convert 38 9 (.slice (some ⟨g, 0, none⟩) n (grownCap w1 n 0 5))) wr.drew = .ok (.string (str l)) wr.drew := conv_row (w := wr.drew) hrw hlb hln
      have hr_wd : RowAt wr.drew g l := hrw
      have hg_wd : g < wr.drew.heap.size := hgw
      have hbb_wd : Below w.heap.size w wr.drew := below_drew1 hbw
      have hs1 : wire_Sum.f (str l) = some ((Crc.sum l : Nat) : Int) := by
        unfold wire_Sum.f
        rw [if_pos (by rw [size_nat, nat_str _ hlb]; omega), nat_str _ hlb]
      have hs2 : wire_Sum.f (a0.extract 0 n) = some ((Crc.sum S : Nat) : Int) := by
        unfold wire_Sum.f
        rw [if_pos (by rw [hn3]; omega), hS]
      have hfin : (x == (((Crc.sum l : Nat) : Int) != ((Crc.sum S : Nat) : Int))) = true := by
        have := burst_sum l S (B % 2 ^ j) c j hl hnum (Nat.mod_lt _ (Nat.two_pow_pos j)) hj (by omega)
        rw [hx]
        by_cases h0 : B % 2 ^ j = 0
        · simp [h0, this.2 h0]
        · have hne : ¬ Crc.sum l = Crc.sum S := fun h => h0 (this.1 h)
          have hne' : (((Crc.sum l : Nat) : Int) == ((Crc.sum S : Nat) : Int)) = false := by simpa using fun h => hne (by omega)
          rw [bne, hne']
          simp [h0]
      have HX := Lib.hid hx
      clear hx hnum hrw hgw hbw HB hl
      by_cases h32 : j < 32
      · have d1 : decide ((j : Int) < 32) = true := decide_eq_true (by omega)
        have d2 : decide ((c : Int) + (j : Int) < 8 * (n : Int)) = false := decide_eq_false (by omega)
        go_wp2
        refine start_ (n := 15) (S := fun w' => Go.Sem.run Tryd.prog (Go.convert 38 9 (.slice (some ⟨g, 0, none⟩) n (grownCap w1 n 0 5))) w' = .ok (.string (str l)) w') (ds := []) #[false, false, false, false, false, false, false, false, false, false, false, false, false, false, false] (by kernel_rfl) rfl rfl hcv (fun hHeld => ?_)
        generalize wr.drew = wd at *
        refine pure_ (i := 0) (N := some 67) (v := ?_) (a' := ?_) #[true, false, false, false, false, false, false, false, false, false, false, false, false, false, false] rfl rfl (by kernel_rfl) (fun _ _ _ h => h) (Or.inl ⟨by rfl, ?_⟩) ?_ ?_
        rotate_left
        · intro w'
          go_simp
          with_reducible rfl
        rotate_left
        · simp only [Act.put, List.setIfInBounds_toArray, List.set_cons_zero, List.set_cons_succ, i64_w, i32_w]
          rfl
        refine pure_ (i := 1) (N := some 68) (v := ?_) (a' := ?_) #[true, true, false, false, false, false, false, false, false, false, false, false, false, false, false] rfl rfl (by kernel_rfl) (fun _ _ _ h => h) (Or.inl ⟨by rfl, ?_⟩) ?_ ?_
        rotate_left
        · intro w'
          go_simp
          with_reducible rfl
        rotate_left
        · simp only [Act.put, List.setIfInBounds_toArray, List.set_cons_zero, List.set_cons_succ, i64_w, i32_w]
          rfl
        refine pure_ (i := 2) (N := some 69) (v := ?_) (a' := ?_) #[true, true, true, false, false, false, false, false, false, false, false, false, false, false, false] rfl rfl (by kernel_rfl) (fun _ _ _ h => h) (Or.inl ⟨by rfl, ?_⟩) ?_ ?_
        rotate_left
        · intro w'
          go_simp
          with_reducible rfl
        rotate_left
        · simp only [Act.put, List.setIfInBounds_toArray, List.set_cons_zero, List.set_cons_succ, i64_w, i32_w]
          rfl
        refine pure_ (i := 3) (N := some 70) (v := ?_) (a' := ?_) #[true, true, true, true, false, false, false, false, false, false, false, false, false, false, false] rfl rfl (by kernel_rfl) (fun _ _ _ h => h) (Or.inl ⟨by rfl, ?_⟩) ?_ ?_
        rotate_left
        · intro w'
          go_simp
          with_reducible rfl
        rotate_left
        · simp only [Act.put, List.setIfInBounds_toArray, List.set_cons_zero, List.set_cons_succ, i64_w, i32_w]
          rfl
        refine pure_ (i := 6) (N := some 73) (v := ?_) (a' := ?_) #[true, true, true, true, false, false, true, false, false, false, false, false, false, false, false] rfl rfl (by kernel_rfl) (fun _ _ _ h => h) (Or.inl ⟨by rfl, ?_⟩) ?_ ?_
        rotate_left
        · intro w'
          go_simp
          with_reducible rfl
        rotate_left
        · simp only [Act.put, List.setIfInBounds_toArray, List.set_cons_zero, List.set_cons_succ, i64_w, i32_w]
          rfl
        refine pure_ (i := 7) (N := some 74) (v := ?_) (a' := ?_) #[true, true, true, true, false, false, true, true, false, false, false, false, false, false, false] rfl rfl (by kernel_rfl) (fun _ _ _ h => h) (Or.inl ⟨by rfl, ?_⟩) ?_ ?_
        rotate_left
        · intro w'
          go_simp
          with_reducible rfl
        rotate_left
        · simp only [Act.put, List.setIfInBounds_toArray, List.set_cons_zero, List.set_cons_succ, i64_w, i32_w]
          rfl
        refine pure_ (i := 8) (N := some 75) (v := ?_) (a' := ?_) #[true, true, true, true, false, false, true, true, true, false, false, false, false, false, false] rfl rfl (by kernel_rfl) (fun _ _ _ h => h) (Or.inl ⟨by rfl, ?_⟩) ?_ ?_
        rotate_left
        · intro w'
          go_simp
          with_reducible rfl
        rotate_left
        · simp only [Act.put, List.setIfInBounds_toArray, List.set_cons_zero, List.set_cons_succ, i64_w, i32_w]
          rfl
        refine pure_ (i := 9) (N := some 76) (v := ?_) (a' := ?_) #[true, true, true, true, false, false, true, true, true, true, false, false, false, false, false] rfl rfl (by kernel_rfl) (fun _ _ _ h => h) (Or.inl ⟨by rfl, ?_⟩) ?_ ?_
        rotate_left
        · intro w'
          go_simp
          with_reducible rfl
        rotate_left
        · simp only [Act.put, List.setIfInBounds_toArray, List.set_cons_zero, List.set_cons_succ, i64_w, i32_w]
          rfl
        refine take_ (i := 4) (N := some 71) (v := ?_) (a' := ?_) #[true, true, true, true, true, false, true, true, true, true, false, false, false, false, false] rfl rfl (by kernel_rfl) (fun _ _ _ h => h) (Or.inl ⟨by rfl, ?_⟩) hHeld ?_ ?_
        rotate_left
        · intro w' hS_
          go_simp
          with_reducible rfl
        rotate_left
        · simp only [Act.put, List.setIfInBounds_toArray, List.set_cons_zero, List.set_cons_succ, i64_w, i32_w]
          rfl
        refine one_ (i := 5) (N := some 72) #[true, true, true, true, true, true, true, true, true, true, false, false, false, false, false] rfl rfl (by kernel_rfl) (by decide) (fun K hK => ?_)
        refine goes_ Tryd.func21 (by kernel_rfl) rfl #[.string (str l)] (by rfl) rfl rfl (by (try simp only [List.map_toArray, List.map_cons, List.map_nil]); first | done | rfl | (simp only [List.length_drop, List.length_take]; rfl)) ?_
        with_reducible refine (wire_Sum.calls (str l) ((Crc.sum l : Nat) : Int) _ ?side1 hs1).mono ?_
        (case side1 => exact GL.below hG hbb_wd)
        rintro e w41 ⟨rfl, hb_w41⟩
        refine ⟨_, rfl, ?_⟩
        have hr_w41 : RowAt w41 g l := RowAt.below hr_wd hb_w41 hg_wd
        have hg_w41 : g < w41.heap.size := Nat.lt_of_lt_of_le hg_wd (below_size hb_w41)
        have hbb_w41 : Below w.heap.size w w41 := below_step hbb_wd hb_w41
        refine hK.out _ _ (conv_row hr_w41 hlb hln) (fun hHeld => ?_)
        clear hK K
        refine norm_ (a' := ?_) ?_ ?_
        rotate_left
        · show Act.put _ (some 72) _ = _
          simp only [Act.put, List.setIfInBounds_toArray, List.set_cons_zero, List.set_cons_succ, i64_w, i32_w]
          rfl
        refine one_ (i := 10) (N := some 77) #[true, true, true, true, true, true, true, true, true, true, true, false, false, false, false] rfl rfl (by kernel_rfl) (by decide) (fun K hK => ?_)
        refine goes_ Tryd.func21 (by kernel_rfl) rfl #[.string (a0.extract 0 n)] (by rfl) rfl rfl (by (try simp only [List.map_toArray, List.map_cons, List.map_nil]); first | done | rfl | (simp only [List.length_drop, List.length_take]; rfl)) ?_
        with_reducible refine (wire_Sum.calls (a0.extract 0 n) ((Crc.sum S : Nat) : Int) _ ?side1 hs2).mono ?_
        (case side1 => exact GL.below hG hbb_w41)
        rintro e w42 ⟨rfl, hb_w42⟩
        refine ⟨_, rfl, ?_⟩
        have hr_w42 : RowAt w42 g l := RowAt.below hr_w41 hb_w42 hg_w41
        have hg_w42 : g < w42.heap.size := Nat.lt_of_lt_of_le hg_w41 (below_size hb_w42)
        have hbb_w42 : Below w.heap.size w w42 := below_step hbb_w41 hb_w42
        refine hK.out _ _ (conv_row hr_w42 hlb hln) (fun hHeld => ?_)
        clear hK K
        refine norm_ (a' := ?_) ?_ ?_
        rotate_left
        · show Act.put _ (some 77) _ = _
          simp only [Act.put, List.setIfInBounds_toArray, List.set_cons_zero, List.set_cons_succ, i64_w, i32_w]
          rfl
        refine pure_ (i := 11) (N := some 78) (v := ?_) (a' := ?_) #[true, true, true, true, true, true, true, true, true, true, true, true, false, false, false] rfl rfl (by kernel_rfl) (fun _ _ _ h => h) (Or.inl ⟨by rfl, ?_⟩) ?_ ?_
        rotate_left
        · intro w'
          go_simp
          with_reducible rfl
        rotate_left
        · simp only [Act.put, List.setIfInBounds_toArray, List.set_cons_zero, List.set_cons_succ, i64_w, i32_w]
          rfl
        refine pure_ (i := 12) (N := some 79) (v := ?_) (a' := ?_) #[true, true, true, true, true, true, true, true, true, true, true, true, true, false, false] rfl rfl (by kernel_rfl) (fun _ _ _ h => h) (Or.inl ⟨by rfl, ?_⟩) ?_ ?_
        rotate_left
        · intro w'
          go_simp
          with_reducible rfl
        rotate_left
        · simp only [Act.put, List.setIfInBounds_toArray, List.set_cons_zero, List.set_cons_succ, i64_w, i32_w]
          rfl
        refine pure_ (i := 13) (N := some 80) (v := ?_) (a' := ?_) #[true, true, true, true, true, true, true, true, true, true, true, true, true, true, false] rfl rfl (by kernel_rfl) (fun _ _ _ h => h) (Or.inl ⟨by rfl, ?_⟩) ?_ ?_
        rotate_left
        · intro w'
          go_simp
          with_reducible rfl
        rotate_left
        · simp only [Act.put, List.setIfInBounds_toArray, List.set_cons_zero, List.set_cons_succ, i64_w, i32_w]
          rfl
        refine pure_ (i := 14) (N := some 6) (v := ?_) (a' := ?_) #[true, true, true, true, true, true, true, true, true, true, true, true, true, true, true] rfl rfl (by kernel_rfl) (fun _ _ _ h => h) (Or.inl ⟨by rfl, ?_⟩) ?_ ?_
        rotate_left
        · intro w'
          go_simp
          with_reducible rfl
        rotate_left
        · simp only [Act.put, List.setIfInBounds_toArray, List.set_cons_zero, List.set_cons_succ, i64_w, i32_w]
          rfl
        refine done_ (by kernel_rfl) ?_
        go_wp2
        go_ret
        exact ⟨rfl, hbb_w42⟩
      · have d1 : decide ((j : Int) < 32) = false := decide_eq_false (by omega)
        go_wp2
        refine start_ (n := 15) (S := fun w' => Go.Sem.run Tryd.prog (Go.convert 38 9 (.slice (some ⟨g, 0, none⟩) n (grownCap w1 n 0 5))) w' = .ok (.string (str l)) w') (ds := []) #[false, false, false, false, false, false, false, false, false, false, false, false, false, false, false] (by kernel_rfl) rfl rfl hcv (fun hHeld => ?_)
        generalize wr.drew = wd at *
        refine pure_ (i := 0) (N := some 67) (v := ?_) (a' := ?_) #[true, false, false, false, false, false, false, false, false, false, false, false, false, false, false] rfl rfl (by kernel_rfl) (fun _ _ _ h => h) (Or.inl ⟨by rfl, ?_⟩) ?_ ?_
        rotate_left
        · intro w'
          go_simp
          with_reducible rfl
        rotate_left
        · simp only [Act.put, List.setIfInBounds_toArray, List.set_cons_zero, List.set_cons_succ, i64_w, i32_w]
          rfl
        refine pure_ (i := 1) (N := some 68) (v := ?_) (a' := ?_) #[true, true, false, false, false, false, false, false, false, false, false, false, false, false, false] rfl rfl (by kernel_rfl) (fun _ _ _ h => h) (Or.inl ⟨by rfl, ?_⟩) ?_ ?_
        rotate_left
        · intro w'
          go_simp
          with_reducible rfl
        rotate_left
        · simp only [Act.put, List.setIfInBounds_toArray, List.set_cons_zero, List.set_cons_succ, i64_w, i32_w]
          rfl
        refine pure_ (i := 2) (N := some 69) (v := ?_) (a' := ?_) #[true, true, true, false, false, false, false, false, false, false, false, false, false, false, false] rfl rfl (by kernel_rfl) (fun _ _ _ h => h) (Or.inl ⟨by rfl, ?_⟩) ?_ ?_
        rotate_left
        · intro w'
          go_simp
          with_reducible rfl
        rotate_left
        · simp only [Act.put, List.setIfInBounds_toArray, List.set_cons_zero, List.set_cons_succ, i64_w, i32_w]
          rfl
        refine pure_ (i := 3) (N := some 70) (v := ?_) (a' := ?_) #[true, true, true, true, false, false, false, false, false, false, false, false, false, false, false] rfl rfl (by kernel_rfl) (fun _ _ _ h => h) (Or.inl ⟨by rfl, ?_⟩) ?_ ?_
        rotate_left
        · intro w'
          go_simp
          with_reducible rfl
        rotate_left
        · simp only [Act.put, List.setIfInBounds_toArray, List.set_cons_zero, List.set_cons_succ, i64_w, i32_w]
          rfl
        refine pure_ (i := 6) (N := some 73) (v := ?_) (a' := ?_) #[true, true, true, true, false, false, true, false, false, false, false, false, false, false, false] rfl rfl (by kernel_rfl) (fun _ _ _ h => h) (Or.inl ⟨by rfl, ?_⟩) ?_ ?_
        rotate_left
        · intro w'
          go_simp
          with_reducible rfl
        rotate_left
        · simp only [Act.put, List.setIfInBounds_toArray, List.set_cons_zero, List.set_cons_succ, i64_w, i32_w]
          rfl
        refine pure_ (i := 7) (N := some 74) (v := ?_) (a' := ?_) #[true, true, true, true, false, false, true, true, false, false, false, false, false, false, false] rfl rfl (by kernel_rfl) (fun _ _ _ h => h) (Or.inl ⟨by rfl, ?_⟩) ?_ ?_
        rotate_left
        · intro w'
          go_simp
          with_reducible rfl
        rotate_left
        · simp only [Act.put, List.setIfInBounds_toArray, List.set_cons_zero, List.set_cons_succ, i64_w, i32_w]
          rfl
        refine pure_ (i := 8) (N := some 75) (v := ?_) (a' := ?_) #[true, true, true, true, false, false, true, true, true, false, false, false, false, false, false] rfl rfl (by kernel_rfl) (fun _ _ _ h => h) (Or.inl ⟨by rfl, ?_⟩) ?_ ?_
        rotate_left
        · intro w'
          go_simp
          with_reducible rfl
        rotate_left
        · simp only [Act.put, List.setIfInBounds_toArray, List.set_cons_zero, List.set_cons_succ, i64_w, i32_w]
          rfl
        refine pure_ (i := 9) (N := some 76) (v := ?_) (a' := ?_) #[true, true, true, true, false, false, true, true, true, true, false, false, false, false, false] rfl rfl (by kernel_rfl) (fun _ _ _ h => h) (Or.inl ⟨by rfl, ?_⟩) ?_ ?_
        rotate_left
        · intro w'
          go_simp
          with_reducible rfl
        rotate_left
        · simp only [Act.put, List.setIfInBounds_toArray, List.set_cons_zero, List.set_cons_succ, i64_w, i32_w]
          rfl
        refine take_ (i := 4) (N := some 71) (v := ?_) (a' := ?_) #[true, true, true, true, true, false, true, true, true, true, false, false, false, false, false] rfl rfl (by kernel_rfl) (fun _ _ _ h => h) (Or.inl ⟨by rfl, ?_⟩) hHeld ?_ ?_
        rotate_left
        · intro w' hS_
          go_simp
          with_reducible rfl
        rotate_left
        · simp only [Act.put, List.setIfInBounds_toArray, List.set_cons_zero, List.set_cons_succ, i64_w, i32_w]
          rfl
        refine one_ (i := 5) (N := some 72) #[true, true, true, true, true, true, true, true, true, true, false, false, false, false, false] rfl rfl (by kernel_rfl) (by decide) (fun K hK => ?_)
        refine goes_ Tryd.func21 (by kernel_rfl) rfl #[.string (str l)] (by rfl) rfl rfl (by (try simp only [List.map_toArray, List.map_cons, List.map_nil]); first | done | rfl | (simp only [List.length_drop, List.length_take]; rfl)) ?_
        with_reducible refine (wire_Sum.calls (str l) ((Crc.sum l : Nat) : Int) _ ?side1 hs1).mono ?_
        (case side1 => exact GL.below hG hbb_wd)
        rintro e w41 ⟨rfl, hb_w41⟩
        refine ⟨_, rfl, ?_⟩
        have hr_w41 : RowAt w41 g l := RowAt.below hr_wd hb_w41 hg_wd
        have hg_w41 : g < w41.heap.size := Nat.lt_of_lt_of_le hg_wd (below_size hb_w41)
        have hbb_w41 : Below w.heap.size w w41 := below_step hbb_wd hb_w41
        refine hK.out _ _ (conv_row hr_w41 hlb hln) (fun hHeld => ?_)
        clear hK K
        refine norm_ (a' := ?_) ?_ ?_
        rotate_left
        · show Act.put _ (some 72) _ = _
          simp only [Act.put, List.setIfInBounds_toArray, List.set_cons_zero, List.set_cons_succ, i64_w, i32_w]
          rfl
        refine one_ (i := 10) (N := some 77) #[true, true, true, true, true, true, true, true, true, true, true, false, false, false, false] rfl rfl (by kernel_rfl) (by decide) (fun K hK => ?_)
        refine goes_ Tryd.func21 (by kernel_rfl) rfl #[.string (a0.extract 0 n)] (by rfl) rfl rfl (by (try simp only [List.map_toArray, List.map_cons, List.map_nil]); first | done | rfl | (simp only [List.length_drop, List.length_take]; rfl)) ?_
        with_reducible refine (wire_Sum.calls (a0.extract 0 n) ((Crc.sum S : Nat) : Int) _ ?side1 hs2).mono ?_
        (case side1 => exact GL.below hG hbb_w41)
        rintro e w42 ⟨rfl, hb_w42⟩
        refine ⟨_, rfl, ?_⟩
        have hr_w42 : RowAt w42 g l := RowAt.below hr_w41 hb_w42 hg_w41
        have hg_w42 : g < w42.heap.size := Nat.lt_of_lt_of_le hg_w41 (below_size hb_w42)
        have hbb_w42 : Below w.heap.size w w42 := below_step hbb_w41 hb_w42
        refine hK.out _ _ (conv_row hr_w42 hlb hln) (fun hHeld => ?_)
        clear hK K
        refine norm_ (a' := ?_) ?_ ?_
        rotate_left
        · show Act.put _ (some 77) _ = _
          simp only [Act.put, List.setIfInBounds_toArray, List.set_cons_zero, List.set_cons_succ, i64_w, i32_w]
          rfl
        refine pure_ (i := 11) (N := some 78) (v := ?_) (a' := ?_) #[true, true, true, true, true, true, true, true, true, true, true, true, false, false, false] rfl rfl (by kernel_rfl) (fun _ _ _ h => h) (Or.inl ⟨by rfl, ?_⟩) ?_ ?_
        rotate_left
        · intro w'
          go_simp
          with_reducible rfl
        rotate_left
        · simp only [Act.put, List.setIfInBounds_toArray, List.set_cons_zero, List.set_cons_succ, i64_w, i32_w]
          rfl
        refine pure_ (i := 12) (N := some 79) (v := ?_) (a' := ?_) #[true, true, true, true, true, true, true, true, true, true, true, true, true, false, false] rfl rfl (by kernel_rfl) (fun _ _ _ h => h) (Or.inl ⟨by rfl, ?_⟩) ?_ ?_
        rotate_left
        · intro w'
          go_simp
          with_reducible rfl
        rotate_left
        · simp only [Act.put, List.setIfInBounds_toArray, List.set_cons_zero, List.set_cons_succ, i64_w, i32_w]
          rfl
        refine pure_ (i := 13) (N := some 80) (v := ?_) (a' := ?_) #[true, true, true, true, true, true, true, true, true, true, true, true, true, true, false] rfl rfl (by kernel_rfl) (fun _ _ _ h => h) (Or.inl ⟨by rfl, ?_⟩) ?_ ?_
        rotate_left
        · intro w'
          go_simp
          with_reducible rfl
        rotate_left
        · simp only [Act.put, List.setIfInBounds_toArray, List.set_cons_zero, List.set_cons_succ, i64_w, i32_w]
          rfl
        refine pure_ (i := 14) (N := some 6) (v := ?_) (a' := ?_) #[true, true, true, true, true, true, true, true, true, true, true, true, true, true, true] rfl rfl (by kernel_rfl) (fun _ _ _ h => h) (Or.inl ⟨by rfl, ?_⟩) ?_ ?_
        rotate_left
        · intro w'
          go_simp
          with_reducible rfl
        rotate_left
        · simp only [Act.put, List.setIfInBounds_toArray, List.set_cons_zero, List.set_cons_succ, i64_w, i32_w]
          rfl
        refine done_ (by kernel_rfl) ?_
        go_wp2
        go_ret
        exact ⟨rfl, hbb_w42⟩
def airchecklaw01_WireSumBurst.f (k : Nat) (a0 : ByteArray) (a1 : Int) (a2 : Int) : Option Bool := if a0.size ≤ 140737488351232 ∧ (-9223372036854775808 ≤ a1 ∧ a1 ≤ 9223372036854775807) ∧ 0 ≤ a2 ∧ a2 < 4294967296 then some true else none
theorem airchecklaw01_WireSumBurst.calls (k : Nat) (a0 : ByteArray) (a1 : Int) (a2 : Int) (r : Bool) (w : World) (hG : GL w) (h : airchecklaw01_WireSumBurst.f k a0 a1 a2 = some r) :
    Calls Tryd.prog 8 #[.string a0, .int .i64 a1, .int .u32 a2] w fun e w' => e = .returned (.bool r) ∧ Below w.heap.size w w' := by
  unfold airchecklaw01_WireSumBurst.f at h
  split at h
  · rename_i hc
    obtain ⟨B, rfl⟩ := Int.eq_ofNat_of_zero_le hc.2.2.1
    obtain rfl := Option.some.inj h
    exact burst_walk a0 a1 B w hG hc.1 hc.2.1 (by omega)
  · cases h
end Go.Proofs.YtijnbalobinfiaaDoor.PW
