import Derived.Test.YtlmlimihgohchaaDoorYSha
import Derived.Test.YtlmlimihgohchaaDoorProg
import Derived.WalkKit
import Derived.Below
/-
  Texts of this claim, one behind the other: what they prove stands above each.
-/
section
/-
  The table of package digest, as the walks ask for it.
-/
namespace Go.Proofs.YtlmlimihgohchaaDoor.Ext
open Go.RowKit
theorem u32_signed : IntKind.u32.signed = false := rfl
theorem u32_max : IntKind.u32.max = 4294967295 := rfl
def GL (w : World) : Prop := ∀ i : Nat, i < 64 → w.cell? ⟨0, i, none⟩ = some (.int .u32 (Sha.kk.getD i 0 : Nat))
theorem GL.below {w w' : World} (h : GL w) (hb : Below w.heap.size w w') : GL w' := fun i hi => (hb.cell (World.block_lt_of_cell? w _ (h i hi))).trans (h i hi)
end Go.Proofs.YtlmlimihgohchaaDoor.Ext
end
