import Derived.Test.YtooogaogbffjfaaDoorMBookHeadsMatchReferenceac
/-
  Texts of this claim, one behind the other: what they prove stands above each.
-/
section
namespace Leb
def leb (z : Nat) : List Nat := if z < 128 then [z] else (z % 128 + 128) :: leb (z / 128)
termination_by z
decreasing_by omega
theorem leb_small {z : Nat} (h : z < 128) : leb z = [z] := by rw [leb, if_pos h]
theorem leb_big {z : Nat} (h : ¬ z < 128) : leb z = (z % 128 + 128) :: leb (z / 128) := by rw [leb, if_neg h]
def val : List Nat → Nat
  | [] => 0
  | b :: l => b % 128 + 128 * val l
def Code : List Nat → Prop
  | [] => False
  | [b] => b < 128
  | b :: l => 128 ≤ b ∧ b < 256 ∧ Code l ∧ l ≠ [0]
theorem leb_ne (z : Nat) : leb z ≠ [] := by rw [leb]; split <;> simp
theorem leb_length (k : Nat) : ∀ z, z < 128 ^ (k + 1) → (leb z).length ≤ k + 1 := by
  induction k with
  | zero => intro z h; rw [leb_small (by simpa using h)]; simp
  | succ k ih =>
    intro z h
    by_cases hz : z < 128
    · rw [leb_small hz]; simp
    · rw [leb_big hz]
      have := ih (z / 128) (by rw [Nat.pow_succ] at h; omega)
      simp; omega
def zig (n : Int) : Nat := if n < 0 then (-2 * n - 1).toNat else (2 * n).toNat
def zag (z : Nat) : Int := if z % 2 = 1 then -((z / 2 : Nat) : Int) - 1 else ((z / 2 : Nat) : Int)
def enc (n : Int) : List Nat := leb (zig n)
end Leb
end
section
namespace Go.Proofs.YtooogaogbffjfaaDoor.Bk
set_option maxRecDepth 100000
open Go.Proofs.YtooogaogbffjfaaDoor.Ext Leb
def encP (p : S27) : List Nat := enc p.f0 ++ (enc p.f1 ++ (enc p.f2 ++ (enc p.f3 ++ (enc p.f4 ++ (enc p.f5 ++ (enc p.f6 ++ []))))))
end Go.Proofs.YtooogaogbffjfaaDoor.Bk
end
