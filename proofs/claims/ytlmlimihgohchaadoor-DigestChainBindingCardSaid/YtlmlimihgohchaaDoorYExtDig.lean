import Derived.Test.YtlmlimihgohchaaDoorYVerExt
import Derived.Test.YtlmlimihgohchaaDoorYChain
/-
  Texts of this claim, one behind the other: what they prove stands above each.
-/
section
/-
  The contracts of package digest, in the print's form.
-/
namespace Go.Proofs.YtlmlimihgohchaaDoor.Ext
open Go.RowKit Go.Proofs.YtlmlimihgohchaaDoorW.PrintWords Go.Proofs.YtlmlimihgohchaaDoorW.PrintLast Go.Proofs.YtlmlimihgohchaaDoorW.PrintMore
def fits (l : List ByteArray) : Prop := l.length ≤ 1000000 ∧ ∀ x ∈ l, x.size ≤ 140737488349000
instance (l : List ByteArray) : Decidable (fits l) := by unfold fits; infer_instance
def digest_left.f (a0 : Int) : Option Int := if 2 ≤ a0 ∧ a0 ≤ 9223372036854775807 then some ((Tree.left a0.toNat : Nat) : Int) else none
def digest_Root.f (l0 : List ByteArray) : Option ByteArray := if fits l0 then some (Tree.root dE dL dN l0) else none
theorem digest_Root.calls (A0 : Option Addr) (c0 : Nat) (l0 : List ByteArray) (r : ByteArray) (w : World) (hr0 : Kd.C Kd.string w A0 l0.length l0) (hc0 : l0.length ≤ c0) (hG : GL w) (h : digest_Root.f l0 = some r) :
    Calls Tryd.prog 19 #[.slice A0 l0.length c0] w fun e w' => e = .returned (.string r) ∧ Below w.heap.size w w' := by
  unfold digest_Root.f at h
  split at h
  · rename_i hc
    obtain rfl := Option.some.inj h
    exact Root_walk A0 c0 l0 w hG hr0 hc0 hc.1 hc.2
  · cases h
def digest_Sum.f (a0 : ByteArray) : Option ByteArray := if a0.size ≤ 140737488350000 then some (str (Sha.sha (nat a0))) else none
theorem digest_Sum.calls (a0 : ByteArray) (r : ByteArray) (w : World) (hG : GL w) (h : digest_Sum.f a0 = some r) :
    Calls Tryd.prog 30 #[.string a0] w fun e w' => e = .returned (.string r) ∧ Below w.heap.size w w' := by
  unfold digest_Sum.f at h
  split at h
  · rename_i hc
    obtain rfl := Option.some.inj h
    exact Sum_walk a0 hc w hG
  · cases h
def digest_Leaf.f (a0 : ByteArray) : Option ByteArray := if a0.size ≤ 140737488349000 then some (dL a0) else none
def digest_Verify.f (a0 : ByteArray) (a1 a2 : Int) (a3 : ByteArray) (l4 : List ByteArray) : Option Bool := if (fits l4 ∧ a3.size ≤ 140737488349000) ∧ (-9223372036854775808 ≤ a1 ∧ a1 ≤ 9223372036854775807) ∧ (-9223372036854775808 ≤ a2 ∧ a2 ≤ 9223372036854775807) then some (verifyB a0 a1 a2 a3 l4) else none
theorem digest_Verify.calls (a0 : ByteArray) (a1 a2 : Int) (a3 : ByteArray) (A4 : Option Addr) (c4 : Nat) (l4 : List ByteArray) (r : Bool) (w : World) (hr4 : Kd.C Kd.string w A4 l4.length l4) (hc4 : l4.length ≤ c4) (hG : GL w) (h : digest_Verify.f a0 a1 a2 a3 l4 = some r) :
    Calls Tryd.prog 21 #[.string a0, .int .i64 a1, .int .i64 a2, .string a3, .slice A4 l4.length c4] w fun e w' => e = .returned (.bool r) ∧ Below w.heap.size w w' := by
  unfold digest_Verify.f at h
  split at h
  · rename_i hc
    obtain rfl := Option.some.inj h
    exact Verify_walk a0 a1 a2 a3 A4 c4 l4 w hG hr4 hc4 hc.1.1.1 (fun x hx => Nat.le_trans (hc.1.1.2 x hx) (by omega)) hc.2.1.1 hc.2.1.2 hc.2.2.1 hc.2.2.2 hc.1.2
  · cases h
def digest_VerifyExtension.f (a0 : ByteArray) (a1 : Int) (a2 : ByteArray) (a3 : Int) (l4 : List ByteArray) : Option Bool := if (fits l4 ∧ a0.size ≤ 9223372036854775807 ∧ a2.size ≤ 9223372036854775807) ∧ (-9223372036854775808 ≤ a1 ∧ a1 ≤ 9223372036854775807) ∧ (-9223372036854775808 ≤ a3 ∧ a3 ≤ 9223372036854775807) then some (extB a0 a1 a2 a3 l4) else none
theorem digest_VerifyExtension.calls (a0 : ByteArray) (a1 : Int) (a2 : ByteArray) (a3 : Int) (A4 : Option Addr) (c4 : Nat) (l4 : List ByteArray) (r : Bool) (w : World) (hr4 : Kd.C Kd.string w A4 l4.length l4) (hc4 : l4.length ≤ c4) (hG : GL w) (h : digest_VerifyExtension.f a0 a1 a2 a3 l4 = some r) :
    Calls Tryd.prog 23 #[.string a0, .int .i64 a1, .string a2, .int .i64 a3, .slice A4 l4.length c4] w fun e w' => e = .returned (.bool r) ∧ Below w.heap.size w w' := by
  unfold digest_VerifyExtension.f at h
  split at h
  · rename_i hc
    obtain rfl := Option.some.inj h
    exact VerifyExtension_walk a0 a1 a2 a3 A4 c4 l4 w hG hr4 hc4 hc.1.1.1 (fun x hx => Nat.le_trans (hc.1.1.2 x hx) (by omega)) hc.2.2.1 hc.2.2.2 hc.2.1.1 hc.2.1.2 hc.1.2.1 hc.1.2.2
  · cases h
def digest_Node.f (a0 a1 : ByteArray) : Option ByteArray := if a0.size + a1.size ≤ 140737488349000 then some (hash (⟨#[1]⟩ ++ (a0 ++ a1))) else none
def digest_Chain.f (a0 a1 : ByteArray) : Option ByteArray := if a0.size + a1.size ≤ 140737488349000 then some (hash (⟨#[2]⟩ ++ (a0 ++ a1))) else none
theorem digest_Chain.calls (a0 a1 : ByteArray) (r : ByteArray) (w : World) (hG : GL w) (h : digest_Chain.f a0 a1 = some r) :
    Calls Tryd.prog 36 #[.string a0, .string a1] w fun e w' => e = .returned (.string r) ∧ Below w.heap.size w w' := by
  unfold digest_Chain.f at h
  split at h
  · rename_i hc
    obtain rfl := Option.some.inj h
    exact Chain_walk a0 a1 hc w hG
  · cases h
end Go.Proofs.YtlmlimihgohchaaDoor.Ext
end
