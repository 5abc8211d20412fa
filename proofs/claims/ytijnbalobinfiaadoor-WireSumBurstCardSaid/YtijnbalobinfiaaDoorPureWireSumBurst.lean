import Derived.Test.YtijnbalobinfiaaDoorExtBurst
/-
  A burst of changed bits is seen.
-/
namespace Go.Proofs.YtijnbalobinfiaaDoor.Pure
open Go.RowKit Go.Proofs.YtijnbalobinfiaaDoor.Ext Go.Proofs.YtijnbalobinfiaaDoor.PW Go.Proofs.YtijnbalobinfiaaDoor.WireSpec
theorem wf32 {a : Int} (h : (Lit.int .u32 a).wf = true) : 0 ≤ a ∧ a < 4294967296 := by
  have : 0 ≤ a ∧ a ≤ 4294967295 := by simpa [Lit.wf, IntKind.min, IntKind.max, IntKind.signed, IntKind.bits] using h
  omega
theorem WireSumBurst (a0 : ByteArray) (a1 a2 : Int) (w0 : a0.size ≤ 140737488351232) (w1 : (Lit.int .i64 a1).wf = true) (w2 : (Lit.int .u32 a2).wf = true) :
    ∃ k, airchecklaw01_WireSumBurst.f k a0 a1 a2 = some true :=
  ⟨0, by unfold airchecklaw01_WireSumBurst.f; rw [if_pos ⟨w0, wf64 w1, wf32 w2⟩]⟩
end Go.Proofs.YtijnbalobinfiaaDoor.Pure
