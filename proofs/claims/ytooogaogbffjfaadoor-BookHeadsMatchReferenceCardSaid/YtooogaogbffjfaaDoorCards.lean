/-
  DERIVED. GIVEN WITH THE SEED: THE CARDS: each row of YtooogaogbffjfaaDoorRows.lean that lists a variable, with what it lists TIED to the program's text (the seventh form; the later family's looks); each row that meets fmt, with fmt's text TOLD by the authors' own Lean function (tested against real Go, not proved from fmt's source: count such statements apart). THE CARD IS WHAT COUNTS. Prove the row's statement (the work); the ties are given (YtooogaogbffjfaaDoorTie.lean); close each card by the builder's one call (the guide's Derived/Test/ToyasCard.lean, 'card_holds'). Laid BY PROGRAM, IN A SANDBOX (cutbox-door.mjs). By AI agents, Wed Nov 11 2026. No macro, syntax, notation, axiom, sorry.
-/
import Derived.Test.YtooogaogbffjfaaDoorRows
import GoSem.ClaimSeven
namespace Go.Proofs.YtooogaogbffjfaaDoor
namespace Rows

/-- THE TIED CARD OF 'airchecklaw24.BookHeadsMatchReference'. -/
def bookHeadsMatchReferenceCard : Claim7 := { stood := { row := bookHeadsMatchReferenceRow, standIns := [], harness := (true, "b8f4ff2c0e1b892880d4ef22b063cec3238a1728d43c9031e014b31c4df89441"), looks := false }, kinds := [], alts := [], laidByText := true, laidKinds := [.data], laidTests := true, laidLooks := .later }
def BookHeadsMatchReferenceCardSaid : Prop := Claim7.holds Tryd.pinned (.plain (OpenSpec.ofChange bookHeadsMatchReferenceSpec)) bookHeadsMatchReferenceCard

/-- THE TIED CARD OF 'airchecklaw24.BookHeads'. -/
def bookHeadsCard : Claim7 := { stood := { row := bookHeadsRow, standIns := [], harness := (true, "b8f4ff2c0e1b892880d4ef22b063cec3238a1728d43c9031e014b31c4df89441"), looks := false }, kinds := [], alts := [], laidByText := true, laidKinds := [.data], laidTests := true, laidLooks := .later }
def BookHeadsCardSaid : Prop := Claim7.holds Tryd.pinned (.plain (OpenSpec.ofChange bookHeadsSpec)) bookHeadsCard

/-- THE SECOND FORM's CARD OF 'airchecklaw24.BookHeadsMatchReference'. -/
def bookHeadsMatchReferenceUptoCard : Claim7 := { stood := { row := bookHeadsMatchReferenceUptoRow, standIns := [], harness := (true, "b8f4ff2c0e1b892880d4ef22b063cec3238a1728d43c9031e014b31c4df89441"), looks := false }, kinds := [], alts := [], laidByText := true, laidKinds := [.data], laidTests := true, laidLooks := .later }
def BookHeadsMatchReferenceUptoCardSaid : Prop := Claim7.holds Tryd.pinned (.plain (OpenSpec.upto bookHeadsMatchReferenceSpec)) bookHeadsMatchReferenceUptoCard

/-- THE SECOND FORM's CARD OF 'airchecklaw24.BookHeads'. -/
def bookHeadsUptoCard : Claim7 := { stood := { row := bookHeadsUptoRow, standIns := [], harness := (true, "b8f4ff2c0e1b892880d4ef22b063cec3238a1728d43c9031e014b31c4df89441"), looks := false }, kinds := [], alts := [], laidByText := true, laidKinds := [.data], laidTests := true, laidLooks := .later }
def BookHeadsUptoCardSaid : Prop := Claim7.holds Tryd.pinned (.plain (OpenSpec.upto bookHeadsSpec)) bookHeadsUptoCard
end Rows
end Go.Proofs.YtooogaogbffjfaaDoor
