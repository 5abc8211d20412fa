import Derived.Test.YtijnbalobinfiaaDoorExtSum
import Derived.Test.YtijnbalobinfiaaDoorRows
import Derived.LaidMore
import Derived.Lib.LaidTab
import Derived.MakeChecks
/-
  From the row's condition on the table to what the walks ask.
-/
namespace Go.Proofs.YtijnbalobinfiaaDoor.Ext
open Go.RowKit
theorem gN : Tryd.prog.globalNamed "aircheck/wire.nibbles" = some 0 := by kernel_rfl
theorem gT : (Tryd.prog.globals[0]?).map (·.type) = some 52 := by kernel_rfl
theorem gl_of_laid {W : World} (h : laidMetH Tryd.prog [("aircheck/wire.nibbles", Rows.laid_aircheck_wire_nibbles)] W) : GL W := by
  rw [MakeChecks.laidMetH_plain _ _ _ (by kernel_rfl)] at h
  have hT := Lib.tabIs_of_head (zs := Crc.tab.map fun n : Nat => (n : Int)) gN gT Tryd.underlying52 Tryd.underlying43 (by kernel_rfl) (by kernel_rfl) h
  intro i hi
  have := hT.cell gN i (by simpa [Crc.tab] using hi)
  rw [this]
  congr 2
  have : i < Crc.tab.length := by simpa [Crc.tab] using hi
  simp [List.getD_eq_getElem?_getD, List.getElem?_eq_getElem this]
end Go.Proofs.YtijnbalobinfiaaDoor.Ext
