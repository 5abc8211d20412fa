import Derived.Test.YtijnbalobinfiaaDoorExtSum
import Derived.Test.YtijnbalobinfiaaDoorExtPut
import Derived.CallsIn
/-
  The contracts of wire.PutInt and wire.Sum, in the print's form.
-/
namespace Go.Proofs.YtijnbalobinfiaaDoor.Ext
open Go.RowKit
theorem u32_signed : IntKind.u32.signed = false := rfl
theorem u32_max : IntKind.u32.max = 4294967295 := rfl

/-- a list of numbers as a string -/
def str (l : List Nat) : ByteArray := ⟨(l.map UInt8.ofNat).toArray⟩
def wire_PutInt.f (a0 : Int) : Option (ByteArray × Int) := if a0 < -4611686018427387903 then some (⟨#[]⟩, 10) else if a0 > 4611686018427387903 then some (⟨#[]⟩, 10) else some (str (Leb.enc a0), 0)
set_option maxHeartbeats 1000000 in
theorem PutInt_low (a : Int) (h : a < -4611686018427387903) (w : World) : Calls Tryd.prog 12 #[.int .i64 a] w fun e w' => e = .returned (.tuple #[.string ⟨#[]⟩, .int .i64 10]) ∧ w' = w := by
  have d1 : decide (a < -4611686018427387903) = true := decide_eq_true h
  go_enter Tryd.func12, Tryd.ntmps12
  go_wp2
  go_ret2
  exact ⟨rfl, rfl⟩
set_option maxHeartbeats 1000000 in
theorem PutInt_high (a : Int) (h : 4611686018427387903 < a) (w : World) : Calls Tryd.prog 12 #[.int .i64 a] w fun e w' => e = .returned (.tuple #[.string ⟨#[]⟩, .int .i64 10]) ∧ w' = w := by
  have d1 : decide (a < -4611686018427387903) = false := decide_eq_false (by omega)
  have d2 : decide (4611686018427387903 < a) = true := decide_eq_true h
  go_enter Tryd.func12, Tryd.ntmps12
  go_wp2
  go_ret2
  exact ⟨rfl, rfl⟩
theorem wire_PutInt.calls (a0 : Int) (r1 : ByteArray) (r2 : Int) (w : World) (h : wire_PutInt.f a0 = some (r1, r2)) :
    Calls Tryd.prog 12 #[.int .i64 a0] w fun e w' => e = .returned (.tuple #[.string r1, .int .i64 r2]) ∧ Below w.heap.size w w' := by
  unfold wire_PutInt.f at h
  by_cases h1 : a0 < -4611686018427387903
  · rw [if_pos h1] at h
    obtain ⟨rfl, rfl⟩ := Prod.mk.inj (Option.some.inj h)
    exact (PutInt_low a0 h1 w).mono fun e w' ⟨he, hw⟩ => ⟨he, hw ▸ Below.refl _ _⟩
  · rw [if_neg h1] at h
    by_cases h2 : a0 > 4611686018427387903
    · rw [if_pos h2] at h
      obtain ⟨rfl, rfl⟩ := Prod.mk.inj (Option.some.inj h)
      exact (PutInt_high a0 h2 w).mono fun e w' ⟨he, hw⟩ => ⟨he, hw ▸ Below.refl _ _⟩
    · rw [if_neg h2] at h
      obtain ⟨rfl, rfl⟩ := Prod.mk.inj (Option.some.inj h)
      exact (callsIn_wide (n := 3)).1 (PutInt_in Fence.wide 3 trivial trivial trivial rfl (by omega) a0 (by omega) (by omega) w)

def wire_Sum.f (a0 : ByteArray) : Option Int := if a0.size ≤ 9223372036854775807 then some ((Crc.sum (nat a0) : Nat) : Int) else none
theorem wire_Sum.calls (a0 : ByteArray) (r : Int) (w : World) (hG : GL w) (h : wire_Sum.f a0 = some r) :
    Calls Tryd.prog 21 #[.string a0] w fun e w' => e = .returned (.int .i64 r) ∧ Below w.heap.size w w' := by
  unfold wire_Sum.f at h
  by_cases hs : a0.size ≤ 9223372036854775807
  · rw [if_pos hs] at h
    obtain rfl := Option.some.inj h
    exact (wire_Sum_walk a0 w hs hG).mono fun e w' ⟨he, hw⟩ => ⟨he, hw ▸ Below.refl _ _⟩
  · rw [if_neg hs] at h
    cases h
end Go.Proofs.YtijnbalobinfiaaDoor.Ext
