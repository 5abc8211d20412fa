import Derived.Test.YtijnbalobinfiaaDoorCrc
import Derived.Test.YtijnbalobinfiaaDoorProg
import Derived.Below
import Derived.Deep.Draws
import Derived.WalkKit
import Derived.LoopTactic
import Derived.Laws.BitsAllLaws
import Derived.Laws.Rows
import Derived.Lib.Hide
namespace Go.Proofs.YtijnbalobinfiaaDoor.Ext
open Go.RowKit

/-- The table of the checksum, as the program's start lays it. -/
def GL (w : World) : Prop := ∀ i : Nat, i < 16 → w.cell? ⟨0, i, none⟩ = some (.int .u32 (Crc.tab.getD i 0 : Nat))
theorem GL.below {w w' : World} (h : GL w) (hb : Below w.heap.size w w') : GL w' := fun i hi => (hb.cell (World.block_lt_of_cell? w _ (h i hi))).trans (h i hi)

/-- a string's bytes as numbers -/
def nat (s : ByteArray) : List Nat := s.data.toList.map (·.toNat)
theorem nat_length (s : ByteArray) : (nat s).length = s.size := by simp [nat]
theorem nat_lt (s : ByteArray) : ∀ b ∈ nat s, b < 256 := by
  intro b hb
  simp only [nat, List.mem_map] at hb
  obtain ⟨c, _, rfl⟩ := hb
  exact c.toNat_lt
theorem nat_at (s : ByteArray) (k : Nat) (h : k < s.size) : (nat s)[k]'(by rw [nat_length]; exact h) = s[k].toNat := by
  simp [nat]; rfl
def regI (s : ByteArray) (k : Nat) : Int := (Crc.reg 0xFFFFFFFF ((nat s).take k) : Nat)
theorem reg_lt' (s : ByteArray) (k : Nat) : Crc.reg 0xFFFFFFFF ((nat s).take k) < 4294967296 :=
  Crc.reg_lt _ (fun b hb => Nat.lt_trans (nat_lt s b (List.mem_of_mem_take hb)) (by decide)) _ (by decide)
theorem regI_succ (s : ByteArray) (k : Nat) (h : k < s.size) : regI s (k + 1) = (Crc.bsN 8 (Crc.reg 0xFFFFFFFF ((nat s).take k) ^^^ s[k].toNat) : Nat) := by
  unfold regI
  rw [List.take_succ_eq_append_getElem (by rw [nat_length]; exact h), nat_at s k h]
  simp [Crc.reg, List.foldl_append]
theorem sum_lt (s : ByteArray) : Crc.sum (nat s) < 4294967296 := by
  have hr := reg_lt' s s.size
  rw [List.take_of_length_le (by rw [nat_length]; omega)] at hr
  exact Nat.xor_lt_two_pow (n := 32) hr (by decide)
/-- one round, in the walk's own forms -/
theorem sum_round (s : ByteArray) (k : Nat) (h : k < s.size) : ∃ x1 i1 t1 x2 i2 t2 x3 : Nat, bits .xor .u32 (regI s k) ((s[k].toNat : Int) % 4294967296) = (x1 : Int) ∧ bits .and .u32 (x1 : Int) 15 = (i1 : Int) ∧ i1 < 16 ∧
    Hid (t1 = Crc.tab.getD i1 0) ∧ bits .xor .u32 ((x1 : Int) / 16) (t1 : Int) = (x2 : Int) ∧ bits .and .u32 (x2 : Int) 15 = (i2 : Int) ∧ i2 < 16 ∧ Hid (t2 = Crc.tab.getD i2 0) ∧ bits .xor .u32 ((x2 : Int) / 16) (t2 : Int) = (x3 : Int) ∧ Hid (regI s (k + 1) = (x3 : Int)) := by
  have hr := reg_lt' s k
  have hb := s[k].toNat_lt
  have ht : ∀ i, i < 16 → Crc.tab.getD i 0 < 4294967296 := by decide
  have hx : Crc.reg 0xFFFFFFFF ((nat s).take k) ^^^ s[k].toNat < 4294967296 := Nat.xor_lt_two_pow (n := 32) hr (by omega)
  have hm : ∀ x : Nat, x < 4294967296 → bits .and .u32 (x : Int) 15 = ((x % 16 : Nat) : Int) := fun x hx => by
    have := u32_and_nat x 15 hx (by decide)
    rw [nat_mask4] at this
    exact this
  have hs : ∀ x i : Nat, x < 4294967296 → i < 16 → bits .xor .u32 ((x : Int) / 16) ((Crc.tab.getD i 0 : Nat) : Int) = ((x >>> 4 ^^^ Crc.tab.getD i 0 : Nat) : Int) := fun x i hx hi => by
    have := u32_xor_nat (x / 16) (Crc.tab.getD i 0) (by omega) (ht i hi)
    rw [Nat.shiftRight_eq_div_pow]
    exact this
  have h4 : ∀ x : Nat, x < 4294967296 → (x >>> 4 ^^^ Crc.tab.getD (x % 16) 0 : Nat) < 4294967296 := fun x hx => Nat.xor_lt_two_pow (n := 32) (by rw [Nat.shiftRight_eq_div_pow]; omega) (ht _ (Nat.mod_lt _ (by decide)))
  have e1 : bits .xor .u32 (regI s k) ((s[k].toNat : Int) % 4294967296) = ((Crc.reg 0xFFFFFFFF ((nat s).take k) ^^^ s[k].toNat : Nat) : Int) := by
    rw [Int.emod_eq_of_lt (by omega) (by omega)]
    exact u32_xor_nat _ _ hr (by omega)
  have e2 := regI_succ s k h
  rw [Crc.bsN8, Crc.bsN4, Crc.bsN4] at e2
  generalize Crc.reg 0xFFFFFFFF ((nat s).take k) ^^^ s[k].toNat = x at *
  exact ⟨x, x % 16, _, _, (x >>> 4 ^^^ Crc.tab.getD (x % 16) 0) % 16, _, _, e1, hm x hx, Nat.mod_lt _ (by decide), Lib.hid rfl, hs x _ hx (Nat.mod_lt _ (by decide)), hm _ (h4 x hx), Nat.mod_lt _ (by decide), Lib.hid rfl, hs _ _ (h4 x hx) (Nat.mod_lt _ (by decide)), Lib.hid e2⟩

set_option maxHeartbeats 1000000 in
theorem wire_Sum_walk (s : ByteArray) (w : World) (hs : s.size ≤ 9223372036854775807) (hG : GL w) :
    Calls Tryd.prog 21 #[.string s] w fun e w' => e = .returned (.int .i64 ((Crc.sum (nat s) : Nat) : Int)) ∧ w' = w := by
  go_enter Tryd.func21, Tryd.ntmps21
  go_wp2
  go_loop [3, 7] (fun r i => ∃ k : Nat, k ≤ s.size ∧ i = .int .i64 k ∧ r = .int .u32 (regI s k)) (fun _ i => s.size - (intOf i).toNat)
  case atStart => exact ⟨0, Nat.zero_le _, rfl, rfl⟩
  case round =>
    obtain ⟨k, hk, rfl, rfl⟩ := hrel
    by_cases hlt : k < s.size
    · obtain ⟨x1, i1, t1, x2, i2, t2, x3, e1, e2, b1, T1, e3, e4, b2, T2, e5, HF⟩ := sum_round s k hlt
      have c1 : w.cell? ⟨0, i1, none⟩ = some (.int .u32 (t1 : Int)) := by rw [T1.out]; exact hG i1 b1
      have c2 : w.cell? ⟨0, i2, none⟩ = some (.int .u32 (t2 : Int)) := by rw [T2.out]; exact hG i2 b2
      go_wp2
      go_round
      case rel => exact ⟨k + 1, by omega, by go_num, by rw [HF.out]⟩
      case measure => simp [intOf]; omega
    · obtain rfl : k = s.size := by omega
      have hsg : IntKind.u32.signed = false := rfl
      have hmx : IntKind.u32.max = 4294967295 := rfl
      have hF : bits .xor .u32 4294967295 (regI s s.size) = ((Crc.sum (nat s) : Nat) : Int) := by
        have hr := reg_lt' s s.size
        unfold regI Crc.sum
        rw [List.take_of_length_le (by rw [nat_length]; omega)] at hr ⊢
        rw [Nat.xor_comm]
        exact u32_xor_nat 4294967295 _ (by decide) hr
      have hw : wrap64 ((Crc.sum (nat s) : Nat) : Int) = ((Crc.sum (nat s) : Nat) : Int) := by
        have := sum_lt s
        unfold wrap64; omega
      go_wp2
      go_ret
      exact ⟨rfl, rfl⟩
end Go.Proofs.YtijnbalobinfiaaDoor.Ext
