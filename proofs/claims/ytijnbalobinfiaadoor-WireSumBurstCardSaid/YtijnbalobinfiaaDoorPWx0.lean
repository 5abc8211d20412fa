-- Written by a program of this session out of the translation's print; not trusted: checked by the kernel.
import Derived.Test.YtijnbalobinfiaaDoorProg
import Derived.Below
import Derived.Deep.Draws
import Derived.Deep.AppendLies
import Derived.Maps.AppendAt
import Derived.OwnWalk
import Derived.Laws.BytesArg
import Derived.Laws.MakeOwn
import Derived.Laws.OwnMore
import Derived.Deep.OwnRows
import Derived.Tactics
import Derived.Lib.ConvBytes
import Derived.Laws.Slices
import Derived.WalkKit
import Derived.KernelRfl
import Derived.RowKit3
import Derived.Deep.LoopGhost
import Derived.Deep.QuietTactic
import Derived.BigQuiet
import Derived.WideLaws
import Derived.Deep.DeepCutAuto
import Derived.Deep.CutBlock
import Derived.Deep.RegionHeld3
import Derived.Laws.Rows
import Derived.Lib.AppendStr
import Derived.ArgAppend
import Derived.Laws.IdiomCopy
import Derived.OrdersHeld
import Derived.Laws.BitsLemmas
import Derived.RowKit
import Derived.Test.YtijnbalobinfiaaDoorExtWire
import Derived.Test.YtijnbalobinfiaaDoorWWords
import Derived.Test.YtijnbalobinfiaaDoorWLast
import Derived.Test.YtijnbalobinfiaaDoorWTab
import Derived.Test.YtijnbalobinfiaaDoorWFour
import Derived.Test.YtijnbalobinfiaaDoorWQPut
import Derived.Test.YtijnbalobinfiaaDoorWApart
import Derived.Test.YtijnbalobinfiaaDoorWArr
import Derived.Test.YtijnbalobinfiaaDoorWZeros
import Derived.Test.YtijnbalobinfiaaDoorWFoot
import Derived.Test.YtijnbalobinfiaaDoorWKept
import Derived.Test.YtijnbalobinfiaaDoorWShare
import Derived.Test.YtijnbalobinfiaaDoorWN
import Derived.Test.YtijnbalobinfiaaDoorWFootNe
import Derived.Test.YtijnbalobinfiaaDoorWAt
import Derived.Test.YtijnbalobinfiaaDoorWEqStruct
import Derived.Test.YtijnbalobinfiaaDoorWRepsOne
import Derived.Test.YtijnbalobinfiaaDoorWInv
import Derived.Test.YtijnbalobinfiaaDoorWInvWords
import Derived.Test.YtijnbalobinfiaaDoorWGuard
import Derived.Test.YtijnbalobinfiaaDoorWNEv
import Derived.Test.YtijnbalobinfiaaDoorWMore
namespace Go.Proofs.YtijnbalobinfiaaDoor.PW
open Go.Proofs.YtijnbalobinfiaaDoor.Ext
attribute [local go_sem] u32_signed u32_max
open Go.RowKit Go.Proofs.YtijnbalobinfiaaDoorW.PrintWords Go.Proofs.YtijnbalobinfiaaDoorW.PrintLast Go.Proofs.YtijnbalobinfiaaDoorW.PrintMore
attribute [local go_sem] max2_int min2_int max_two min_two max_three min_three max_four min_four   -- for this text's walks alone
set_option linter.unusedVariables false
set_option linter.unusedSimpArgs false



def errW : Option Int → Value
  | none => .nilIface
  | some c => .iface 0 (.int .i64 c)
theorem errW_none : errW none = .nilIface := rfl
theorem errW_some (c : Int) : errW (some c) = .iface 0 (.int .i64 c) := rfl

theorem info3 : (Tryd.prog.info? 3).map (fun i => (i.zero, i.size, i.bytes)) = some (some (.int .i64 0), 1, 8) := by kernel_rfl
theorem info5 : (Tryd.prog.info? 5).map (fun i => (i.zero, i.size, i.bytes)) = some (some (.int .u8 0), 1, 1) := by kernel_rfl
-- the values' own types

end Go.Proofs.YtijnbalobinfiaaDoor.PW
