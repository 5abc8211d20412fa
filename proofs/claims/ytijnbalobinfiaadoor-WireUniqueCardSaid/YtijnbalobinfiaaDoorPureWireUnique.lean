import Derived.Test.YtijnbalobinfiaaDoorWireCut
import Derived.Test.YtijnbalobinfiaaDoorPWx17
/-
  What is accepted is what the encoders return.
-/
set_option linter.unusedVariables false
namespace Go.Proofs.YtijnbalobinfiaaDoor.Pure
open Go.RowKit Go.Proofs.YtijnbalobinfiaaDoorW.PrintWords Go.Proofs.YtijnbalobinfiaaDoorW.PrintLast Go.Proofs.YtijnbalobinfiaaDoorW.PrintMore Go.Proofs.YtijnbalobinfiaaDoor.Ext Go.Proofs.YtijnbalobinfiaaDoor.PW Go.Proofs.YtijnbalobinfiaaDoor.WireSpec Leb

theorem toList_nat' (s t : ByteArray) (h : nat s = nat t) : s.toList = t.toList := (toList_nat s t).2 h

theorem uniq_str (T : ByteArray) (hT : T.size ≤ 1000) (c : Nat) (hc : c ≤ T.size) (k : Nat) (hk : 12 ≤ k) (ys : List Int) (len i : Int) :
    airchecklaw01_WireUnique.j1 (k + 1) true T (c : Int) ys len i false = airchecklaw01_WireUnique.l0 k true T ys len (wrap64 (i + 1)) := by
  simp only [airchecklaw01_WireUnique.j1]
  rw [if_neg (by decide)]
  rcases startsS_or ((nat T).drop c) with ⟨t, y, h⟩ | h
  · obtain ⟨r, h1, h2⟩ := str_yes T (by omega) c hc k hk h
    have hl := congrArg List.length h.1
    have h3 := h.2
    simp only [List.length_drop, nat_length, List.length_append] at hl
    have hr : r.size = t.length := by rw [size_nat, h2]
    have hn : nat (str (enc (r.size : Int)) ++ r) = enc (t.length : Int) ++ t := by rw [nat_append, nat_enc, h2, hr]
    rw [h1, Option.bind_some, putS_ok r (by omega), Option.bind_some, if_pos rfl, if_pos rfl, if_neg (by simp only; omega), if_neg (by simp only; omega), if_pos (by omega), if_pos (by simp only; omega), if_pos (by simp only; omega)]
    rw [if_pos]
    simp only [Int.toNat_natCast]
    refine toList_nat' _ _ ?_
    rw [hn, nat_extract, h.1, show c + (enc (t.length : Int)).length + t.length - c = (enc (t.length : Int) ++ t).length by rw [List.length_append]; omega, ← List.append_assoc, List.take_left]
  · rw [str_no T (by omega) c hc k hk h, Option.bind_some, putS_ok _ (by show (0 : Nat) ≤ 65536; omega), Option.bind_some, if_neg (by decide), if_pos rfl, if_pos (by rw [Lib.toList_data]), if_pos rfl]

theorem uniq_step (T : ByteArray) (hT : T.size ≤ 1000) (ys : List Int) (i : Nat) (hi : i < ys.length) (hl : ys.length < 1000) (c : Nat) (hc : c ≤ T.size) (hrd : rd ys (i : Int) = (c : Int)) (k : Nat) (hk : 12 ≤ k) :
    airchecklaw01_WireUnique.l0 (k + 2) true T ys (ys.length : Int) (i : Int) = airchecklaw01_WireUnique.l0 k true T ys (ys.length : Int) ((i + 1 : Nat) : Int) := by
  have hw : wrap64 ((i : Int) + 1) = ((i + 1 : Nat) : Int) := by rw [w64 (by omega) (by omega)]; omega
  have hu := uniq_str T hT c hc k hk ys (ys.length : Int) (i : Int)
  rw [hw] at hu
  rw [airchecklaw01_WireUnique.l0, if_pos (by omega), if_pos (by omega), if_pos (by omega), hrd, int_is T (by omega) _ (k + 1) (by omega), Option.bind_some]
  rcases starts_or ((nat T).drop c) with ⟨z, y, h⟩ | h
  · have hl := congrArg List.length h.1
    simp only [List.length_drop, nat_length, List.length_append] at hl
    rw [dec_yes T c hc h]
    rw [put_zag h.2, Option.bind_some, if_pos rfl, if_pos rfl, if_neg (by simp only; omega), if_neg (by simp only; omega), if_pos (by omega), if_pos (by simp only; omega), if_pos (by simp only; omega), if_pos, hu]
    simp only [Int.toNat_natCast]
    refine toList_nat' _ _ ?_
    rw [nat_str _ (leb_bytes z), nat_extract, h.1, Nat.add_sub_cancel_left, List.take_left]
  · rw [dec_no T c hc h, put_ok (by decide) (by decide), Option.bind_some, if_neg (by decide), if_pos rfl, if_pos rfl]
    exact hu

theorem WireUnique (a0 : ByteArray) (a1 a2 : Int) (w0 : a0.size ≤ 140737488351232) (w1 : (Lit.int .i64 a1).wf = true) (w2 : (Lit.int .u8 a2).wf = true) :
    ∃ k, airchecklaw01_WireUnique.f k a0 a1 a2 = some true := by
  obtain ⟨i, hi, i1, i2, hp⟩ := cut_is a0 300
  generalize hp' : a0.extract 0 i = p at *
  have hs : (strOfNums [a2]).size = 1 := by simp [strOfNums, ByteArray.size]
  have hT : (strOfNums [a2] ++ p).size = 1 + p.size := by rw [ByteArray.size_append, hs]
  refine ⟨20, ?_⟩
  unfold airchecklaw01_WireUnique.f
  rw [sane_is 20 (by decide), Option.bind_some, Option.bind_some]
  simp only [show (300 : Int) = ((300 : Nat) : Int) from rfl, hi, Int.toNat_natCast, hp']
  rw [if_pos (by omega), if_pos (by omega), if_pos (by omega)]
  generalize strOfNums [a2] ++ p = T at *
  have hw : wrap64 ((T.size : Int) + 1) = ((T.size + 1 : Nat) : Int) := by rw [w64 (by omega) (by omega)]; omega
  obtain ⟨c, h1, c0, c1⟩ := pick_is (wf64 w1).1 (wf64 w1).2 (n := ((T.size + 1 : Nat) : Int)) (by omega)
  rw [hw, h1, Option.bind_some, Option.bind_some]
  obtain ⟨c, rfl⟩ := Int.eq_ofNat_of_zero_le c0
  have e1 := uniq_step T (by omega) [0, (c : Int)] 0 (by simp) (by simp) 0 (by omega) rfl 18 (by decide)
  have e2 := uniq_step T (by omega) [0, (c : Int)] 1 (by simp) (by simp) c (by omega) rfl 16 (by decide)
  have e0 : airchecklaw01_WireUnique.l0 20 true T [0, (c : Int)] (([0, (c : Int)] : List Int).length : Int) 0 = _ := e1.trans e2
  rw [e0, airchecklaw01_WireUnique.l0, if_neg (by simp)]
end Go.Proofs.YtijnbalobinfiaaDoor.Pure
