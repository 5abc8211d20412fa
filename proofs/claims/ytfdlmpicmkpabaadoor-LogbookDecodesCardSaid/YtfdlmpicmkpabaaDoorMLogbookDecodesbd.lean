import Derived.Shelf.Strings.OnBuilder
import Derived.Test.YtfdlmpicmkpabaaDoorProg
/-
  Texts of this claim, one behind the other: what they prove stands above each.
-/
set_option linter.unusedVariables false
set_option linter.unusedSimpArgs false
section
namespace Go.Proofs
open Go.Shelf
def YtfdlmpicmkpabaaDoorjoin.lays156_ren:Go.Shelf.Ren:=⟨fun |156=>105 |165=>113 |166=>54 |169=>55 |240=>82 |241=>115 |276=>99 |277=>116 |n=>n,fun |31=>35 |9=>9 |3=>3 |4=>4 |0=>0 |20=>20 |72=>85 |76=>92 |70=>83 |37=>48 |75=>91 |127=>126 |164=>152 |5=>5 |80=>94 |n=>n,fun |n=>n⟩
theorem YtfdlmpicmkpabaaDoorjoin.lays156:Go.Proofs.Lays.n156 Tryd.prog YtfdlmpicmkpabaaDoorjoin.lays156_ren:={
 mixed:=by kernel_rfl
 f156:=Tryd.func105.trans (congrArg some (by kernel_rfl))
 f165:=Tryd.func113.trans (congrArg some (by kernel_rfl))
 f166:=Tryd.func54.trans (congrArg some (by kernel_rfl))
 f169:=Tryd.func55.trans (congrArg some (by kernel_rfl))
 f240:=Tryd.func82.trans (congrArg some (by kernel_rfl))
 f241:=Tryd.func115.trans (congrArg some (by kernel_rfl))
 f276:=Tryd.func99.trans (congrArg some (by kernel_rfl))
 f277:=Tryd.func116.trans (congrArg some (by kernel_rfl))
 t0:=Tryd.underlying0
 a0:=Tryd.isAgg0
 z0:=Tryd.sizeOf0
 v0:=Tryd.zeroValue0
 t3:=Tryd.underlying3
 a3:=Tryd.isAgg3
 z3:=Tryd.sizeOf3
 v3:=Tryd.zeroValue3
 t4:=Tryd.underlying4
 a4:=Tryd.isAgg4
 z4:=Tryd.sizeOf4
 v4:=Tryd.zeroValue4
 t9:=Tryd.underlying9
 a9:=Tryd.isAgg9
 z9:=Tryd.sizeOf9
 v9:=Tryd.zeroValue9
 t20:=Tryd.underlying20
 a20:=Tryd.isAgg20
 z20:=Tryd.sizeOf20
 v20:=Tryd.zeroValue20
 t31:=Tryd.underlying35
 a31:=Tryd.isAgg35
 z31:=Tryd.sizeOf35
 v31:=Tryd.zeroValue35
 t37:=Tryd.underlying48
 a37:=Tryd.isAgg48
 z37:=Tryd.sizeOf48
 v37:=Tryd.zeroValue48
 t70:=Tryd.underlying83
 a70:=Tryd.isAgg83
 z70:=Tryd.sizeOf83
 v70:=Tryd.zeroValue83
 t72:=Tryd.underlying85
 a72:=Tryd.isAgg85
 z72:=Tryd.sizeOf85
 v72:=Tryd.zeroValue85
 t75:=Tryd.underlying91
 a75:=Tryd.isAgg91
 z75:=Tryd.sizeOf91
 v75:=Tryd.zeroValue91
 t76:=Tryd.underlying92
 a76:=Tryd.isAgg92
 z76:=Tryd.sizeOf92
 v76:=Tryd.zeroValue92
 t127:=Tryd.underlying126
 a127:=Tryd.isAgg126
 z127:=Tryd.sizeOf126
 v127:=Tryd.zeroValue126
 t164:=Tryd.underlying152
 a164:=Tryd.isAgg152
 z164:=Tryd.sizeOf152
 v164:=Tryd.zeroValue152 }
theorem YtfdlmpicmkpabaaDoorjoin.extra156:Builder.Extra Tryd.prog YtfdlmpicmkpabaaDoorjoin.lays156_ren:={
 sizeBuilder:=by kernel_rfl
 liesBuilder:=by kernel_rfl
 t5:=Tryd.underlying5
 a5:=Tryd.isAgg5
 z5:=Tryd.sizeOf5
 v5:=Tryd.zeroValue5
 infoByte:=by kernel_rfl
 cellsByte:=by kernel_rfl
 sizeByte:=by kernel_rfl
 neB5:=by decide }
open Go.RowKit in
theorem YtfdlmpicmkpabaaDoorjoin.empty(a:Option Addr)(c:Nat)(sep:ByteArray)(w:World):
  Calls Tryd.prog 105 #[.slice a 0 c,.string sep] w fun e w'=>e=.returned (.string ⟨#[]⟩)∧w'=w:=Any.strings_Join_none YtfdlmpicmkpabaaDoorjoin.lays156 YtfdlmpicmkpabaaDoorjoin.extra156 a c sep w
open Go.RowKit in
theorem YtfdlmpicmkpabaaDoorjoin.any(bk o c:Nat)(xs:List ByteArray)(sep:ByteArray)(w:World)(hcells:∀(j:Nat) x,xs[j]?=some x->w.cell? ⟨bk,o+j,none⟩=some (.string x))(hbk:bk<w.heap.size)(hN:xs.length<=140737488355328)(hcap:xs.length<=c)(hlen:(Lib.join (xs.map (·.data.toList)) sep.data.toList).length<=140737488355328):
  Calls Tryd.prog 105 #[.slice (some ⟨bk,o,none⟩) xs.length c,.string sep] w fun e w'=>e=.returned (.string ⟨(Lib.join (xs.map (·.data.toList)) sep.data.toList).toArray⟩)∧Below w.heap.size w w':=Any.strings_Join YtfdlmpicmkpabaaDoorjoin.lays156 YtfdlmpicmkpabaaDoorjoin.extra156 bk o c xs sep w hcells hbk hN hcap hlen
end Go.Proofs
end
