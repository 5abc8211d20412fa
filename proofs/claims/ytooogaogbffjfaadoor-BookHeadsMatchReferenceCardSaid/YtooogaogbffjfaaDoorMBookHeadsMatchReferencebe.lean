import Derived.Test.YtooogaogbffjfaaDoorMBookHeadsMatchReferenceac
import Derived.Test.YtooogaogbffjfaaDoorMBookHeadsMatchReferencead
import Derived.Test.YtooogaogbffjfaaDoorMBookHeadsMatchReferencebd
import Derived.CallsIn
/-
  Texts of this claim, one behind the other: what they prove stands above each.
-/
section
namespace Go.Proofs.YtooogaogbffjfaaDoor.Ext
set_option maxRecDepth 100000
open Go.RowKit
def wire_PutInt.f (a0 : Int) : Option (ByteArray × Int) := if a0 < -4611686018427387903 then some (⟨#[]⟩, 10) else if a0 > 4611686018427387903 then some (⟨#[]⟩, 10) else some (str (Leb.enc a0), 0)
set_option maxHeartbeats 1000000 in
theorem PutInt_low (a : Int) (h : a < -4611686018427387903) (w : World) : Calls Tryd.prog 25 #[.int .i64 a] w fun e w' => e = .returned (.tuple #[.string ⟨#[]⟩, .int .i64 10]) ∧ w' = w := by
  have d1 : decide (a < -4611686018427387903) = true := decide_eq_true h
  go_enter Tryd.func25, Tryd.ntmps25
  go_wp2
  go_ret2
  exact ⟨rfl, rfl⟩
set_option maxHeartbeats 1000000 in
theorem PutInt_high (a : Int) (h : 4611686018427387903 < a) (w : World) : Calls Tryd.prog 25 #[.int .i64 a] w fun e w' => e = .returned (.tuple #[.string ⟨#[]⟩, .int .i64 10]) ∧ w' = w := by
  have d1 : decide (a < -4611686018427387903) = false := decide_eq_false (by omega)
  have d2 : decide (4611686018427387903 < a) = true := decide_eq_true h
  go_enter Tryd.func25, Tryd.ntmps25
  go_wp2
  go_ret2
  exact ⟨rfl, rfl⟩
theorem wire_PutInt.calls (a0 : Int) (r1 : ByteArray) (r2 : Int) (w : World) (h : wire_PutInt.f a0 = some (r1, r2)) :
    Calls Tryd.prog 25 #[.int .i64 a0] w fun e w' => e = .returned (.tuple #[.string r1, .int .i64 r2]) ∧ Below w.heap.size w w' := by
  unfold wire_PutInt.f at h
  by_cases h1 : a0 < -4611686018427387903
  · rw [if_pos h1] at h
    obtain ⟨rfl, rfl⟩ := Prod.mk.inj (Option.some.inj h)
    exact (PutInt_low a0 h1 w).mono fun e w' ⟨he, hw⟩ => ⟨he, hw ▸ Below.refl _ _⟩
  · rw [if_neg h1] at h
    by_cases h2 : a0 > 4611686018427387903
    · rw [if_pos h2] at h
      obtain ⟨rfl, rfl⟩ := Prod.mk.inj (Option.some.inj h)
      exact (PutInt_high a0 h2 w).mono fun e w' ⟨he, hw⟩ => ⟨he, hw ▸ Below.refl _ _⟩
    · rw [if_neg h2] at h
      obtain ⟨rfl, rfl⟩ := Prod.mk.inj (Option.some.inj h)
      exact (callsIn_wide (n := 3)).1 (PutInt_in Fence.wide 3 trivial trivial trivial rfl (by omega) a0 (by omega) (by omega) w)
end Go.Proofs.YtooogaogbffjfaaDoor.Ext
end
