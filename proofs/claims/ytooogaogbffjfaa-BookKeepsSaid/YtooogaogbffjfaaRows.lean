/-
  No cell of these rows narrows 'for every input' (looked for: loops, veiled, ifaces, maps, wideKeys, modest, calm, conditions, laid).
  DERIVED. THE GIVEN ROWS OF THIS SEAT. 4 by the template 'for every input the law returns true; each argument reads behind the call as it read before'; 0 by the template 'total and deterministic' (their statements: YtooogaogbffjfaaTotals.lean).
  GIVEN WITH THE SEED: the statements are not yours to turn. If you find one false, say at which input.
  Laid BY PROGRAM, IN A SANDBOX (cutbox-rows.mjs): the forced cells as the released guide's own fill.sh prints them over the translation 6f67bb748a24360f… (all of the seat's roots in one cut). By AI agents, Wed Nov 11 2026. No macro, syntax, notation, axiom, sorry.
-/
import Derived.Test.YtooogaogbffjfaaChecked
import GoSem.Claim
import GoSem.ClaimJoined
import GoSem.ClaimMapViews
import Derived.JoinedTies
import Derived.KernelRfl
namespace Go.Proofs.Ytooogaogbffjfaa
/- THE CELL 'sum', in the pinned program and in every row, IS THE sha256 OF THE DUMP (.gsa) THAT YtooogaogbffjfaaProg.lean LOADS. Nothing in Lean hashes anything: it is a label: what it is worth is what the hold of that sum in a sandbox is worth. -/
noncomputable def Try.pinned : Pinned := { name := "ytooogaogbffjfaa", sum := "6f67bb748a24360f3c5acde2f35b18eb187eafab1666d11432ba3445e540494b", checked := Try.checked }
namespace Rows
def none {H : Type} : Left H := { results := [], args := [] }

/-- 'airchecklaw24.BookMatchesReference': WHATEVER THE INPUT: true; the input reads as it did. -/
def bookMatchesReferenceSpec : ChangeSpec := { name := "bookMatchesReference", fn := fun _ => fun
  | [d1, d2, d3, d4, d5, d6, d7, d8] => { results := [.lit (.bool true)], args := [d1, d2, d3, d4, d5, d6, d7, d8] }
  | _ => none }
def bookMatchesReferenceRow : OpenClaim := { program := "ytooogaogbffjfaa", sum := "6f67bb748a24360f3c5acde2f35b18eb187eafab1666d11432ba3445e540494b", func := "aircheck/airchecklaw24.BookMatchesReference", spec := "bookMatchesReference", unfollowed := true, recurses := true, apart := false }
def BookMatchesReferenceSaid : Prop := bookMatchesReferenceRow.holds Try.pinned (OpenSpec.ofChange bookMatchesReferenceSpec)

/-- ITS FALSE NEIGHBOUR: 'it returns false'. Refute it at one input. -/
def bookMatchesReferenceWrong : ChangeSpec := { name := "bookMatchesReference", fn := fun _ => fun
  | [d1, d2, d3, d4, d5, d6, d7, d8] => { results := [.lit (.bool false)], args := [d1, d2, d3, d4, d5, d6, d7, d8] }
  | _ => none }
def BookMatchesReferenceWrongFalsely : Prop := bookMatchesReferenceRow.holds Try.pinned (OpenSpec.ofChange bookMatchesReferenceWrong)

/-- 'airchecklaw24.BookSums': WHATEVER THE INPUT: true; the input reads as it did. -/
def bookSumsSpec : ChangeSpec := { name := "bookSums", fn := fun _ => fun
  | [d1, d2] => { results := [.lit (.bool true)], args := [d1, d2] }
  | _ => none }
def bookSumsRow : OpenClaim := { program := "ytooogaogbffjfaa", sum := "6f67bb748a24360f3c5acde2f35b18eb187eafab1666d11432ba3445e540494b", func := "aircheck/airchecklaw24.BookSums", spec := "bookSums", unfollowed := true, recurses := true, apart := false }
def BookSumsSaid : Prop := bookSumsRow.holds Try.pinned (OpenSpec.ofChange bookSumsSpec)

/-- ITS FALSE NEIGHBOUR: 'it returns false'. Refute it at one input. -/
def bookSumsWrong : ChangeSpec := { name := "bookSums", fn := fun _ => fun
  | [d1, d2] => { results := [.lit (.bool false)], args := [d1, d2] }
  | _ => none }
def BookSumsWrongFalsely : Prop := bookSumsRow.holds Try.pinned (OpenSpec.ofChange bookSumsWrong)

/-- 'airchecklaw24.BookKeeps': WHATEVER THE INPUT: true; the input reads as it did. -/
def bookKeepsSpec : ChangeSpec := { name := "bookKeeps", fn := fun _ => fun
  | [d1, d2, d3] => { results := [.lit (.bool true)], args := [d1, d2, d3] }
  | _ => none }
def bookKeepsRow : OpenClaim := { program := "ytooogaogbffjfaa", sum := "6f67bb748a24360f3c5acde2f35b18eb187eafab1666d11432ba3445e540494b", func := "aircheck/airchecklaw24.BookKeeps", spec := "bookKeeps", unfollowed := true, recurses := true, apart := false }
def BookKeepsSaid : Prop := bookKeepsRow.holds Try.pinned (OpenSpec.ofChange bookKeepsSpec)

/-- ITS FALSE NEIGHBOUR: 'it returns false'. Refute it at one input. -/
def bookKeepsWrong : ChangeSpec := { name := "bookKeeps", fn := fun _ => fun
  | [d1, d2, d3] => { results := [.lit (.bool false)], args := [d1, d2, d3] }
  | _ => none }
def BookKeepsWrongFalsely : Prop := bookKeepsRow.holds Try.pinned (OpenSpec.ofChange bookKeepsWrong)

/-- 'airchecklaw24.BookDisputes': WHATEVER THE INPUT: true; the input reads as it did. -/
def bookDisputesSpec : ChangeSpec := { name := "bookDisputes", fn := fun _ => fun
  | [d1, d2, d3, d4, d5] => { results := [.lit (.bool true)], args := [d1, d2, d3, d4, d5] }
  | _ => none }
def bookDisputesRow : OpenClaim := { program := "ytooogaogbffjfaa", sum := "6f67bb748a24360f3c5acde2f35b18eb187eafab1666d11432ba3445e540494b", func := "aircheck/airchecklaw24.BookDisputes", spec := "bookDisputes", unfollowed := true, recurses := true, apart := false }
def BookDisputesSaid : Prop := bookDisputesRow.holds Try.pinned (OpenSpec.ofChange bookDisputesSpec)

/-- ITS FALSE NEIGHBOUR: 'it returns false'. Refute it at one input. -/
def bookDisputesWrong : ChangeSpec := { name := "bookDisputes", fn := fun _ => fun
  | [d1, d2, d3, d4, d5] => { results := [.lit (.bool false)], args := [d1, d2, d3, d4, d5] }
  | _ => none }
def BookDisputesWrongFalsely : Prop := bookDisputesRow.holds Try.pinned (OpenSpec.ofChange bookDisputesWrong)

/- THE SECOND FORM. 'bulk': how many values and letters a reading holds, each counted each time it is reached (what is shared counts as often as it is met; a slice's spare places count too). A statement '..UptoSaid' is the law's where the arguments, and the package variables that the reading takes, are together of bulk at most 1048576: NARROWER than '..Said'. Prove '..Said' where nothing that the law and all that it calls make is longer than what came in: it says more and counts as full. Else prove '..UptoSaid'. A law counts once. -/
mutual
def uptoBulk {H : Type} : DataW H → Nat
  | .lit (.string bytes) => bytes.length + 1
  | .lit _ => 1
  | .nil => 1
  | .ptr d => uptoBulk d + 1
  | .slice elems spare => uptoBulkAll elems + uptoBulkAll spare + 1
  | .agg parts => uptoBulkAll parts + 1
  | .iface _ d => uptoBulk d + 1
  | .map entries => uptoBulkEntries entries + 1
  | .held _ => 1
def uptoBulkAll {H : Type} : List (DataW H) → Nat
  | [] => 0
  | d :: r => uptoBulk d + uptoBulkAll r
def uptoBulkEntries {H : Type} : List (Lit × DataW H) → Nat
  | [] => 0
  | x :: r => uptoBulkEntry x + uptoBulkEntries r
def uptoBulkEntry {H : Type} : Lit × DataW H → Nat
  | (.string bytes, d) => bytes.length + uptoBulk d + 1
  | (_, d) => uptoBulk d + 1
 end
def uptoSmall : (H : Type) → List (DataW H) → Bool := fun _ ds => decide (uptoBulkAll ds ≤ 1048576)
def OpenSpec.upto (s : _root_.Go.ChangeSpec) : _root_.Go.OpenSpec := { _root_.Go.OpenSpec.ofChange s with cond := some uptoSmall }

/-- 'airchecklaw24.BookMatchesReference', WHERE WHAT IT READS IS OF BULK AT MOST 1048576: true; the input reads as it did. -/
def bookMatchesReferenceUptoRow : OpenClaim := { program := "ytooogaogbffjfaa", sum := "6f67bb748a24360f3c5acde2f35b18eb187eafab1666d11432ba3445e540494b", func := "aircheck/airchecklaw24.BookMatchesReference", spec := "bookMatchesReference", unfollowed := true, recurses := true, apart := false, narrowed := true }
def BookMatchesReferenceUptoSaid : Prop := bookMatchesReferenceUptoRow.holds Try.pinned (OpenSpec.upto bookMatchesReferenceSpec)

/-- 'airchecklaw24.BookSums', WHERE WHAT IT READS IS OF BULK AT MOST 1048576: true; the input reads as it did. -/
def bookSumsUptoRow : OpenClaim := { program := "ytooogaogbffjfaa", sum := "6f67bb748a24360f3c5acde2f35b18eb187eafab1666d11432ba3445e540494b", func := "aircheck/airchecklaw24.BookSums", spec := "bookSums", unfollowed := true, recurses := true, apart := false, narrowed := true }
def BookSumsUptoSaid : Prop := bookSumsUptoRow.holds Try.pinned (OpenSpec.upto bookSumsSpec)

/-- 'airchecklaw24.BookKeeps', WHERE WHAT IT READS IS OF BULK AT MOST 1048576: true; the input reads as it did. -/
def bookKeepsUptoRow : OpenClaim := { program := "ytooogaogbffjfaa", sum := "6f67bb748a24360f3c5acde2f35b18eb187eafab1666d11432ba3445e540494b", func := "aircheck/airchecklaw24.BookKeeps", spec := "bookKeeps", unfollowed := true, recurses := true, apart := false, narrowed := true }
def BookKeepsUptoSaid : Prop := bookKeepsUptoRow.holds Try.pinned (OpenSpec.upto bookKeepsSpec)

/-- 'airchecklaw24.BookDisputes', WHERE WHAT IT READS IS OF BULK AT MOST 1048576: true; the input reads as it did. -/
def bookDisputesUptoRow : OpenClaim := { program := "ytooogaogbffjfaa", sum := "6f67bb748a24360f3c5acde2f35b18eb187eafab1666d11432ba3445e540494b", func := "aircheck/airchecklaw24.BookDisputes", spec := "bookDisputes", unfollowed := true, recurses := true, apart := false, narrowed := true }
def BookDisputesUptoSaid : Prop := bookDisputesUptoRow.holds Try.pinned (OpenSpec.upto bookDisputesSpec)

end Rows
end Go.Proofs.Ytooogaogbffjfaa
