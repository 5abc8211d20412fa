import Derived.OpenShut
import Derived.Lib.SmallJoins
import Derived.ProofKit
/-
  An array of two strings that came in, opened.
-/
namespace Go.Proofs.YtijnbalobinfiaaDoor.Ext
open Go.RowKit Go.Joins
theorem open_str2 {H : Type} {enc : TypeId × Value → H} {P : Program} {w : World} {r : Reach} {b0 base : Nat} {spare : Nat → Bool} {held : Bool} {t e : TypeId} {v : Value} {d : DataW H} {p : List MemPlace}
    (ht : P.underlying t = some (.array 2 e)) (he : P.underlying e = some .string) (hct : P.cellsOf t = 2) (hce : P.cellsOf e = 1)
    (hv : Value.okWide P w r b0 t v) (h : DataW.Trod enc P w base spare held t v d p) : ∃ s0 s1 : ByteArray, v = .agg #[.string s0, .string s1] := by
  unfold Value.okWide at hv
  rw [ht] at hv
  obtain ⟨cs, rfl, hsz, _⟩ := hv
  obtain ⟨c0, c1, rfl⟩ := array2 (hsz.trans hct)
  obtain ⟨fuel, hf⟩ := h
  obtain ⟨xs, m, rfl, hx, hlen, hn, hel⟩ := DataW.trod_array ht hf
  match xs, hn with
  | [x0, x1], _ =>
    have h0 := hel 0 (by decide)
    have h1 := hel 1 (by decide)
    rw [hce] at h0 h1
    simp [Value.cells] at h0 h1
    obtain ⟨s0, e0, _⟩ := DataW.trod_string he h0
    obtain ⟨s1, e1, _⟩ := DataW.trod_string he h1
    simp at e0 e1
    subst e0 e1
    exact ⟨s0, s1, rfl⟩
end Go.Proofs.YtijnbalobinfiaaDoor.Ext
