import Derived.Test.YtijnbalobinfiaaDoorWireSpec2
/-
  The examples hold.
-/
set_option linter.unusedVariables false
set_option linter.unusedSimpArgs false
namespace Go.Proofs.YtijnbalobinfiaaDoor.WireSpec
open Go.RowKit Go.Proofs.YtijnbalobinfiaaDoorW.PrintWords Go.Proofs.YtijnbalobinfiaaDoorW.PrintLast Go.Proofs.YtijnbalobinfiaaDoorW.PrintMore Go.Proofs.YtijnbalobinfiaaDoor.Ext Go.Proofs.YtijnbalobinfiaaDoor.PW Leb
theorem ex1 : wire_PutInt.f (-64) = some (str [127], 0) := by
  rw [put_ok (by decide) (by decide)]
  have : enc (-64) = [127] := by
    unfold enc; rw [show zig (-64) = 127 by decide, leb_small (by decide)]
  rw [this]
theorem leb128 : leb 128 = [128, 1] := by rw [leb_big (by decide), leb_small (by decide)]
theorem ex2 : wire_PutInt.f 64 = some (str [128, 1], 0) := by
  rw [put_ok (by decide) (by decide)]
  have : enc 64 = [128, 1] := by
    unfold enc; rw [show zig 64 = 128 by decide, leb128]
  rw [this]
theorem ex3 (k : Nat) (hk : 12 ≤ k) : wire_Int.f k (⟨#[97, 172, 2, 98]⟩ : ByteArray) 1 = some (150, 3, 0) := by
  rw [int_is _ (by decide) _ k hk]
  have hl : leb 300 = [172, 2] := by rw [leb_big (by decide), leb_small (by decide)]
  have := dec_yes (⟨#[97, 172, 2, 98]⟩ : ByteArray) 1 (by decide) (z := 300) (y := [98]) ⟨by rw [hl]; decide, by decide⟩
  rw [hl] at this
  exact congrArg some this
theorem ex4 (k : Nat) (hk : 12 ≤ k) : wire_Int.f k (⟨#[128, 0]⟩ : ByteArray) 0 = some (0, 0, 10) := by
  rw [int_is _ (by decide) _ k hk]
  refine congrArg some (dec_no (⟨#[128, 0]⟩ : ByteArray) 0 (by decide) fun z y h => ?_)
  have h1 : [128, 0] = leb z ++ y := h.1
  have hs := scan_code 9 [] (leb z) y (leb_code z) (leb_len9 h.2)
  rw [← h1] at hs
  have h2 : scan 9 [] [128, 0] = some [128, 0] := by decide
  rw [h2] at hs
  have h3 : leb z = [128, 0] := (Option.some.inj hs).symm
  have h4 := val_leb z
  rw [h3] at h4
  have h5 : z = 0 := by rw [← h4]; decide
  rw [h5, leb_small (by decide)] at h3
  cases h3
theorem ex5 : wire_PutString.f (⟨#[97, 98]⟩ : ByteArray) = some (⟨#[4, 97, 98]⟩, 0) := by
  rw [putS_ok _ (by decide)]
  have : enc (((⟨#[97, 98]⟩ : ByteArray).size : Int)) = [4] := by
    rw [enc_nat]; exact leb_small (by decide)
  rw [this]
  rfl
theorem ex6 (k : Nat) (hk : 12 ≤ k) : wire_String.f k (⟨#[4, 97, 98, 99]⟩ : ByteArray) 0 = some (⟨#[97, 98]⟩, 3, 0) := by
  have he : enc ((([97, 98] : List Nat).length : Int)) = [4] := by rw [enc_nat]; exact leb_small (by decide)
  obtain ⟨r, h1, h2⟩ := str_yes (⟨#[4, 97, 98, 99]⟩ : ByteArray) (by decide) 0 (by decide) k hk (t := [97, 98]) (y := [99]) ⟨by rw [he]; decide, by decide⟩
  rw [he] at h1
  have : r = ⟨#[97, 98]⟩ := nat_inj (by rw [h2]; decide)
  rw [this] at h1
  exact h1
theorem ex7 (k : Nat) (hk : 12 ≤ k) : wire_String.f k (⟨#[4, 97]⟩ : ByteArray) 0 = some (⟨#[]⟩, 0, 10) := by
  refine str_no (⟨#[4, 97]⟩ : ByteArray) (by decide) 0 (by decide) k hk fun t y h => ?_
  have h1 : leb 4 ++ [97] = leb (2 * t.length) ++ (t ++ y) := by
    rw [← enc_nat, ← h.1, leb_small (by decide)]; decide
  obtain ⟨h2, h3⟩ := leb_prefix h1
  have := congrArg List.length h3
  simp at this
  omega
theorem ex8 : wire_PutInt.f 4611686018427387904 = some (⟨#[]⟩, 10) := by
  unfold wire_PutInt.f; rw [if_neg (by decide), if_pos (by decide)]
theorem ex9 (k : Nat) (hk : 12 ≤ k) : wire_Int.f k (⟨#[]⟩ : ByteArray) 1 = some (0, 0, 2) := by
  rw [int_is _ (by decide) _ k hk]
  unfold dec; rw [if_pos (by decide)]
set_option maxRecDepth 10000 in
theorem ex10 : wire_Sum.f (⟨#[49, 50, 51, 52, 53, 54, 55, 56, 57]⟩ : ByteArray) = some 3808858755 := by decide
theorem sane_is (k : Nat) (hk : 12 ≤ k) : airchecklaw01_sane.f k = some true := by
  unfold airchecklaw01_sane.f
  rw [ex1]; simp only [Option.bind_some]
  rw [ex2]; simp only [Option.bind_some]
  rw [ex3 k hk]; simp only [Option.bind_some]
  rw [ex4 k hk]; simp only [Option.bind_some]
  rw [ex5]; simp only [Option.bind_some]
  rw [ex6 k hk]; simp only [Option.bind_some]
  rw [ex7 k hk]; simp only [Option.bind_some]
  rw [ex8]; simp only [Option.bind_some]
  rw [ex9 k hk]; simp only [Option.bind_some]
  rw [ex10]; simp only [Option.bind_some]
  simp only [Lib.toList_data]
  decide
end Go.Proofs.YtijnbalobinfiaaDoor.WireSpec
