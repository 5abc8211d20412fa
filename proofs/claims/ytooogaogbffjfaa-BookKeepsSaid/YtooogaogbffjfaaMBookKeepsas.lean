import Derived.Test.YtooogaogbffjfaaMBookKeepsar
import Derived.Test.YtooogaogbffjfaaMBookKeepsaq
/-
  Texts of this claim, one behind the other: what they prove stands above each.
-/
section
/-
 The reference's Valid, in the form of the print.
-/
set_option linter.unusedVariables false
set_option linter.unusedSimpArgs false
namespace Go.Proofs.Ytooogaogbffjfaa.PB
open Go.RowKit Go.Shelf Go.Proofs.YtooogaogbffjfaaW.PrintWords Go.Proofs.YtooogaogbffjfaaW.PrintLast Go.Proofs.YtooogaogbffjfaaW.PrintMore Go.Proofs.Ytooogaogbffjfaa.PK Go.Proofs.Ytooogaogbffjfaa.Bk Go.Proofs.Ytooogaogbffjfaa.Ext
def aircheckref24_Valid.f (k : Nat) (a0_0 : Int) (l0_1 : List (S27)) (a0_2 : Int) : Option (Bool) := some (validB a0_0 l0_1 a0_2)
theorem aircheckref24_Valid.calls (k : Nat) (a0_0 : Int) (A0_1 : Option Addr) (c0_1 : Nat) (l0_1 : List (S27)) (a0_2 : Int) (r : Bool) (w : World) (hr0_1 : Kd.C k27 w A0_1 l0_1.length l0_1) (hc0_1 : l0_1.length ≤ c0_1) (h : aircheckref24_Valid.f k a0_0 l0_1 a0_2 = some r) :
  Calls Try.prog 12 #[.agg #[.int .i64 a0_0, .slice A0_1 l0_1.length c0_1, .int .i64 a0_2]] w fun e w' => e = .returned (.bool r) ∧ Below w.heap.size w w' :=
 rValid_walk a0_0 a0_2 A0_1 l0_1.length c0_1 l0_1 rfl r (Option.some.inj h) w hr0_1
end Go.Proofs.Ytooogaogbffjfaa.PB
end
section
/-
  The reference's Valid is ours.
-/
set_option linter.unusedVariables false
set_option linter.unusedSimpArgs false
namespace Go.Proofs.Ytooogaogbffjfaa.Bk
open Go.RowKit Go.Shelf Go.Proofs.YtooogaogbffjfaaW.PrintWords Go.Proofs.YtooogaogbffjfaaW.PrintLast Go.Proofs.YtooogaogbffjfaaW.PrintMore Go.Proofs.Ytooogaogbffjfaa.PK Go.Proofs.Ytooogaogbffjfaa.PB Go.Proofs.Ytooogaogbffjfaa.Ext
theorem refValid_is (k : Nat) (acc clo : Int) (ps : List S27) (hk : 1000 ≤ k) (hn : ps.length ≤ 1000000) : aircheckref24_Valid.f k acc ps clo = some (validB acc ps clo) := rfl
end Go.Proofs.Ytooogaogbffjfaa.Bk
end
