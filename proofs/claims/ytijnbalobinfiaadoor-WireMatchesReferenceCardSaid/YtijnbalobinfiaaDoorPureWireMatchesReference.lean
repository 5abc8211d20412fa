import Derived.Test.YtijnbalobinfiaaDoorWireRef
/-
  The package answers as the reference does.
-/
set_option linter.unusedVariables false
namespace Go.Proofs.YtijnbalobinfiaaDoor.Pure
open Go.RowKit Go.Proofs.YtijnbalobinfiaaDoorW.PrintWords Go.Proofs.YtijnbalobinfiaaDoorW.PrintLast Go.Proofs.YtijnbalobinfiaaDoorW.PrintMore Go.Proofs.YtijnbalobinfiaaDoor.Ext Go.Proofs.YtijnbalobinfiaaDoor.PW Go.Proofs.YtijnbalobinfiaaDoor.WireSpec Leb

theorem put_some (a : Int) : ∃ r, wire_PutInt.f a = some r := by
  unfold wire_PutInt.f
  split
  · exact ⟨_, rfl⟩
  · split <;> exact ⟨_, rfl⟩
theorem puts_some (s : ByteArray) : ∃ r, wire_PutString.f s = some r := by
  by_cases h : s.size ≤ 65536
  · exact ⟨_, putS_ok s h⟩
  · exact ⟨_, putS_big s (by omega)⟩

theorem mr_step0 (T : ByteArray) (x2 : Int) (ys : List Int) (i : Nat) (hi : i < ys.length) (hl : ys.length < 1000) (k : Nat) (hk : 12 ≤ k) (hk2 : k < 100000) :
    airchecklaw01_WireMatchesReference.l0 (k + 1) x2 true T ys (ys.length : Int) (i : Int) = airchecklaw01_WireMatchesReference.l0 k x2 true T ys (ys.length : Int) ((i + 1 : Nat) : Int) := by
  obtain ⟨r, hr⟩ := put_some (rd ys (i : Int))
  rw [airchecklaw01_WireMatchesReference.l0, if_pos (by omega), if_pos (by omega), if_pos (by omega), ref_put _ k hk hk2, hr, Option.bind_some, Option.bind_some, if_pos rfl, if_pos rfl, w64 (by omega) (by omega)]
  rfl
theorem mr_step1 (T : ByteArray) (hT : T.size ≤ 1000) (ys : List Int) (i : Nat) (hi : i < ys.length) (hl : ys.length < 1000) (k : Nat) (hk : 50 ≤ k) (hk2 : k < 100000) :
    airchecklaw01_WireMatchesReference.l1 (k + 1) true T ys (ys.length : Int) (i : Int) = airchecklaw01_WireMatchesReference.l1 k true T ys (ys.length : Int) ((i + 1 : Nat) : Int) := by
  obtain ⟨r, hr⟩ := string_some T (by omega) (rd ys (i : Int)) k (by omega)
  rw [airchecklaw01_WireMatchesReference.l1, if_pos (by omega), if_pos (by omega), if_pos (by omega), ref_int T (by omega) _ k hk hk2, int_is T (by omega) _ k (by omega), ref_string T (by omega) _ k hk hk2, hr, Option.bind_some, Option.bind_some, Option.bind_some, Option.bind_some, if_pos rfl, if_pos rfl, if_pos rfl, if_pos rfl, if_pos rfl, if_pos rfl, w64 (by omega) (by omega)]
  rfl
theorem mr_end1 (T : ByteArray) (hT : T.size ≤ 300) (ys : List Int) (k : Nat) (hk : 3100 ≤ k) (hk2 : k < 100000) :
    airchecklaw01_WireMatchesReference.l1 (k + 1) true T ys (ys.length : Int) (ys.length : Int) = some true := by
  obtain ⟨r, hr⟩ := puts_some T
  have hs := ref_sum_mono T _ (k - (10 * T.size + 1)) _ (ref_sum T (by omega))
  rw [show 10 * T.size + 1 + (k - (10 * T.size + 1)) = k by omega] at hs
  have hw : wire_Sum.f T = some ((Crc.sum (nat T) : Nat) : Int) := by unfold wire_Sum.f; rw [if_pos (by omega)]
  rw [airchecklaw01_WireMatchesReference.l1, if_neg (by omega), ref_puts T k (by omega) hk2, hr, Option.bind_some, Option.bind_some, if_pos rfl, if_pos rfl, if_pos rfl, hw, hs, Option.bind_some, Option.bind_some]
  simp

theorem WireMatchesReference (a0 : Int) (a1 : ByteArray) (a2 : Int) (w0 : (Lit.int .i64 a0).wf = true) (w1 : a1.size ≤ 140737488351232) (w2 : (Lit.int .i64 a2).wf = true) :
    ∃ k, airchecklaw01_WireMatchesReference.f k a0 a1 a2 = some true := by
  obtain ⟨i, hi, i1, i2, hp⟩ := cut_is a1 300
  generalize hp' : a1.extract 0 i = T at *
  obtain ⟨n, hn, n0, n1⟩ := number_is (wf64 w0).1 (wf64 w0).2
  obtain ⟨c, hc, c0, c1⟩ := pick_is (wf64 w2).1 (wf64 w2).2 (n := ((T.size + 2 : Nat) : Int)) (by omega)
  have hw : wrap64 ((T.size : Int) + 2) = ((T.size + 2 : Nat) : Int) := by rw [w64 (by omega) (by omega)]; omega
  refine ⟨4000 + 6, ?_⟩
  generalize hK : (4000 : Nat) = K
  unfold airchecklaw01_WireMatchesReference.f
  rw [sane_is (K + 6) (by omega), Option.bind_some]
  simp only [show (300 : Int) = ((300 : Nat) : Int) from rfl, hi, Int.toNat_natCast, hp']
  rw [if_pos (by omega), if_pos (by omega), hn, Option.bind_some, Option.bind_some]
  have e1 := mr_step0 T a2 [a0, n] 0 (by simp) (by simp) (K + 5) (by omega) (by omega)
  have e2 := mr_step0 T a2 [a0, n] 1 (by simp) (by simp) (K + 4) (by omega) (by omega)
  refine (e1.trans e2).trans ?_
  rw [airchecklaw01_WireMatchesReference.l0, if_neg (by simp), hw, hc, Option.bind_some, Option.bind_some]
  have e3 := mr_step1 T (by omega) [a2, c] 0 (by simp) (by simp) (K + 2) (by omega) (by omega)
  have e4 := mr_step1 T (by omega) [a2, c] 1 (by simp) (by simp) (K + 1) (by omega) (by omega)
  refine (e3.trans e4).trans ?_
  exact mr_end1 T (by omega) [a2, c] K (by omega) (by omega)
end Go.Proofs.YtijnbalobinfiaaDoor.Pure
