import Derived.Shelf.Strings.Repeat
import Derived.Test.YtooogaogbffjfaaDoorProg
import Derived.Test.YtooogaogbffjfaaDoorMBookHeadsMatchReferencebb
import Derived.Test.YtooogaogbffjfaaDoorMBookHeadsMatchReferencebf
/-
  Texts of this claim, one behind the other: what they prove stands above each.
-/
section
set_option linter.unusedVariables false
namespace Go.Proofs
open Go.Shelf
def YtooogaogbffjfaaDoorrep.lays105_ren : Go.Shelf.Ren := ⟨fun | 105 => 34 | 212 => 52 | 99 => 53 | 165 => 54 | 166 => 26 | 170 => 55 | 169 => 27 | 263 => 65 | 264 => 66 | 206 => 67 | 240 => 48 | 241 => 68 | 276 => 62 | 277 => 72 | n => n, fun | 9 => 9 | 3 => 3 | 4 => 4 | 20 => 20 | 0 => 0 | 46 => 81 | 109 => 97 | 5 => 5 | 72 => 59 | 76 => 63 | 51 => 77 | 146 => 113 | 53 => 94 | 148 => 115 | 70 => 56 | 37 => 57 | 75 => 62 | 127 => 95 | 164 => 110 | 80 => 65 | n => n, fun | n => n⟩
theorem YtooogaogbffjfaaDoorrep.lays105 : Go.Proofs.Lays.n105 Tryd.prog YtooogaogbffjfaaDoorrep.lays105_ren := {
  mixed := by kernel_rfl
  f99 := Tryd.func53.trans (congrArg some (by kernel_rfl))
  f105 := Tryd.func34.trans (congrArg some (by kernel_rfl))
  f165 := Tryd.func54.trans (congrArg some (by kernel_rfl))
  f166 := Tryd.func26.trans (congrArg some (by kernel_rfl))
  f169 := Tryd.func27.trans (congrArg some (by kernel_rfl))
  f170 := Tryd.func55.trans (congrArg some (by kernel_rfl))
  f206 := Tryd.func67.trans (congrArg some (by kernel_rfl))
  f212 := Tryd.func52.trans (congrArg some (by kernel_rfl))
  f240 := Tryd.func48.trans (congrArg some (by kernel_rfl))
  f241 := Tryd.func68.trans (congrArg some (by kernel_rfl))
  f263 := Tryd.func65.trans (congrArg some (by kernel_rfl))
  f264 := Tryd.func66.trans (congrArg some (by kernel_rfl))
  f276 := Tryd.func62.trans (congrArg some (by kernel_rfl))
  f277 := Tryd.func72.trans (congrArg some (by kernel_rfl))
  t0 := Tryd.underlying0
  a0 := Tryd.isAgg0
  z0 := Tryd.sizeOf0
  v0 := Tryd.zeroValue0
  t3 := Tryd.underlying3
  a3 := Tryd.isAgg3
  z3 := Tryd.sizeOf3
  v3 := Tryd.zeroValue3
  t4 := Tryd.underlying4
  a4 := Tryd.isAgg4
  z4 := Tryd.sizeOf4
  v4 := Tryd.zeroValue4
  t5 := Tryd.underlying5
  a5 := Tryd.isAgg5
  z5 := Tryd.sizeOf5
  v5 := Tryd.zeroValue5
  t9 := Tryd.underlying9
  a9 := Tryd.isAgg9
  z9 := Tryd.sizeOf9
  v9 := Tryd.zeroValue9
  t20 := Tryd.underlying20
  a20 := Tryd.isAgg20
  z20 := Tryd.sizeOf20
  v20 := Tryd.zeroValue20
  t37 := Tryd.underlying57
  a37 := Tryd.isAgg57
  z37 := Tryd.sizeOf57
  v37 := Tryd.zeroValue57
  t46 := Tryd.underlying81
  a46 := Tryd.isAgg81
  z46 := Tryd.sizeOf81
  v46 := Tryd.zeroValue81
  t51 := Tryd.underlying77
  a51 := Tryd.isAgg77
  z51 := Tryd.sizeOf77
  v51 := Tryd.zeroValue77
  t53 := Tryd.underlying94
  a53 := Tryd.isAgg94
  z53 := Tryd.sizeOf94
  v53 := Tryd.zeroValue94
  t70 := Tryd.underlying56
  a70 := Tryd.isAgg56
  z70 := Tryd.sizeOf56
  v70 := Tryd.zeroValue56
  t72 := Tryd.underlying59
  a72 := Tryd.isAgg59
  z72 := Tryd.sizeOf59
  v72 := Tryd.zeroValue59
  t75 := Tryd.underlying62
  a75 := Tryd.isAgg62
  z75 := Tryd.sizeOf62
  v75 := Tryd.zeroValue62
  t76 := Tryd.underlying63
  a76 := Tryd.isAgg63
  z76 := Tryd.sizeOf63
  v76 := Tryd.zeroValue63
  t109 := Tryd.underlying97
  a109 := Tryd.isAgg97
  z109 := Tryd.sizeOf97
  v109 := Tryd.zeroValue97
  t127 := Tryd.underlying95
  a127 := Tryd.isAgg95
  z127 := Tryd.sizeOf95
  v127 := Tryd.zeroValue95
  t146 := Tryd.underlying113
  a146 := Tryd.isAgg113
  z146 := Tryd.sizeOf113
  v146 := Tryd.zeroValue113
  t148 := Tryd.underlying115
  a148 := Tryd.isAgg115
  z148 := Tryd.sizeOf115
  v148 := Tryd.zeroValue115
  t164 := Tryd.underlying110
  a164 := Tryd.isAgg110
  z164 := Tryd.sizeOf110
  v164 := Tryd.zeroValue110 }
theorem YtooogaogbffjfaaDoorrep.extra105 : Builder.Extra Tryd.prog YtooogaogbffjfaaDoorrep.lays105_ren := {
  sizeBuilder := by kernel_rfl
  liesBuilder := by kernel_rfl
  t5 := Tryd.underlying5
  a5 := Tryd.isAgg5
  z5 := Tryd.sizeOf5
  v5 := Tryd.zeroValue5
  infoByte := by kernel_rfl
  cellsByte := by kernel_rfl
  sizeByte := by kernel_rfl
  neB5 := by decide }
open Go.RowKit Go.Lib in
theorem YtooogaogbffjfaaDoorrep.main (s : ByteArray) (c : Nat) (w : World) (hc2 : 2 ≤ c) (hc : c ≤ 9223372036854775807) (hlen : s.size * c ≤ 140737488355328) (h0 : 0 < s.size) :
    Calls Tryd.prog 34 #[.string s, .int .i64 c] w fun e w' => e = .returned (.string ⟨(Lib.repeatL s.data.toList c).toArray⟩) ∧ Below w.heap.size w w' := Any.strings_Repeat_main YtooogaogbffjfaaDoorrep.lays105 YtooogaogbffjfaaDoorrep.extra105 s c w hc2 hc hlen h0
end Go.Proofs
end
section
set_option linter.unusedVariables false
set_option linter.unusedSimpArgs false
namespace Go.Proofs.YtooogaogbffjfaaDoor.Ext
set_option maxRecDepth 100000
open Go.RowKit Go.Proofs.YtooogaogbffjfaaDoorW.PrintWords Go.Proofs.YtooogaogbffjfaaDoorW.PrintLast Go.Proofs.YtooogaogbffjfaaDoorW.PrintMore Go.Proofs.YtooogaogbffjfaaDoor.Bk
theorem hash_size (s : ByteArray) : (hash s).size = 32 := by
  unfold hash str ByteArray.size
  rfl
def zz : ByteArray := strOfNums (List.replicate 32 0)
theorem zz_size : zz.size = 32 := rfl
theorem zz_rep : (⟨(Lib.repeatL (⟨#[0]⟩ : ByteArray).data.toList 32).toArray⟩ : ByteArray) = zz := by decide +kernel
def pre2 (h l : ByteArray) : ByteArray := ⟨#[2]⟩ ++ (h ++ l)
def hdR : List ByteArray → ByteArray
  | [] => zz
  | a :: R => hash (pre2 (hdR R) a)
def strsR : List ByteArray → List ByteArray
  | [] => []
  | a :: R => pre2 (hdR R) a :: strsR R
theorem hdR_size (R : List ByteArray) : (hdR R).size = 32 := by
  cases R with
  | nil => exact zz_size
  | cons a R => exact hash_size _
theorem pre2_size (h l : ByteArray) : (pre2 h l).size = 1 + h.size + l.size := by unfold pre2; rw [ByteArray.size_append, ByteArray.size_append]; show 1 + _ = _; omega
theorem pre2_assoc (a b : ByteArray) : ((⟨#[2]⟩ : ByteArray) ++ a) ++ b = pre2 a b := by unfold pre2; exact ByteArray.append_assoc
def Coll (a b : List ByteArray) : Prop := ∃ (i : Nat) (x y : ByteArray), a[i]? = some x ∧ b[i]? = some y ∧ x ≠ y ∧ hash x = hash y
theorem Coll.cons {a b : List ByteArray} (x y : ByteArray) (h : Coll a b) : Coll (x :: a) (y :: b) := by
  obtain ⟨i, p, q, h1, h2, h3, h4⟩ := h
  exact ⟨i + 1, p, q, by simpa using h1, by simpa using h2, h3, h4⟩
def txt (p : S27) : ByteArray := str (encP p)
def headP (ps : List S27) : ByteArray := hdR (ps.map txt).reverse
def strsP (ps : List S27) : List ByteArray := (strsR (ps.map txt).reverse).reverse
theorem headP_snoc (ps : List S27) (p : S27) : headP (ps ++ [p]) = hash (pre2 (headP ps) (txt p)) := by
  unfold headP
  rw [List.map_append, List.reverse_append]
  rfl
theorem headP_size (ps : List S27) : (headP ps).size = 32 := hdR_size _
theorem txt_size (p : S27) (h : okP p = true) : (txt p).size ≤ 63 := by
  unfold txt
  rw [str_size, ← encL_fld]
  exact enc_len _ h
end Go.Proofs.YtooogaogbffjfaaDoor.Ext
end
