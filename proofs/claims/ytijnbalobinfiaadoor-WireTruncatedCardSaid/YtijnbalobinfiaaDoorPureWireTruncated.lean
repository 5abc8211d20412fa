import Derived.Test.YtijnbalobinfiaaDoorWireSane
import Derived.Test.YtijnbalobinfiaaDoorPWx19
/-
  No proper beginning of a code is accepted.
-/
set_option linter.unusedVariables false
set_option linter.unusedSimpArgs false
namespace Go.Proofs.YtijnbalobinfiaaDoor.Pure
open Go.RowKit Go.Proofs.YtijnbalobinfiaaDoorW.PrintWords Go.Proofs.YtijnbalobinfiaaDoorW.PrintLast Go.Proofs.YtijnbalobinfiaaDoorW.PrintMore Go.Proofs.YtijnbalobinfiaaDoor.Ext Go.Proofs.YtijnbalobinfiaaDoor.PW Go.Proofs.YtijnbalobinfiaaDoor.WireSpec Leb

theorem no_start {c : List Nat} {z j : Nat} (hc : c = leb z) (hj : j < c.length) : ∀ z' y, ¬ Starts (c.take j) z' y := by
  intro z' y h
  have h1 : leb z ++ [] = leb z' ++ (y ++ c.drop j) := by
    rw [← List.append_assoc, ← h.1, List.take_append_drop, List.append_nil, hc]
  obtain ⟨h2, h3⟩ := leb_prefix h1
  have := congrArg List.length h3
  simp at this
  omega
theorem no_startS {c t : List Nat} {j : Nat} (hc : c = enc (t.length : Int) ++ t) (hj : j < c.length) : ∀ t' y, ¬ StartsS (c.take j) t' y := by
  intro t' y h
  have h1 : leb (2 * t.length) ++ t = leb (2 * t'.length) ++ (t' ++ y ++ c.drop j) := by
    rw [← enc_nat, ← enc_nat, ← hc, ← List.append_assoc, ← h.1, List.take_append_drop]
  obtain ⟨h2, h3⟩ := leb_prefix h1
  have := congrArg List.length h3
  simp at this
  omega
theorem mn_cut (s : ByteArray) (m : Int) (hm : 0 ≤ m) : 0 ≤ mn (s.size : Int) m ∧ mn (s.size : Int) m ≤ (s.size : Int) ∧ mn (s.size : Int) m ≤ m := by
  unfold mn; split <;> omega
theorem size_cut (s : ByteArray) (j : Nat) (h : j ≤ s.size) : (s.extract 0 j).size = j := by
  rw [ByteArray.size_extract, Nat.min_eq_left h]; rfl

theorem WireTruncated (a0 a1 : Int) (a2 : ByteArray) (a3 : Int) (w0 : (Lit.int .i64 a0).wf = true) (w1 : (Lit.int .i64 a1).wf = true) (w2 : a2.size ≤ 140737488351232) (w3 : (Lit.int .i64 a3).wf = true) :
    ∃ k, airchecklaw01_WireTruncated.f k a0 a1 a2 a3 = some true := by
  obtain ⟨n0, h0, l0, u0⟩ := number_is (wf64 w0).1 (wf64 w0).2
  obtain ⟨n1, h1, l1, u1⟩ := number_is (wf64 w1).1 (wf64 w1).2
  obtain ⟨m0, m1, m2⟩ := mn_cut a2 200 (by decide)
  generalize hm : mn (a2.size : Int) 200 = m at *
  obtain ⟨j, rfl⟩ := Int.eq_ofNat_of_zero_le m0
  have hts := size_cut a2 j (by omega)
  generalize ht : a2.extract 0 j = t at *
  have hA : (str (enc n0)).size = (enc n0).length := by rw [size_nat, nat_enc]
  have hB : (str (enc n1)).size = (enc n1).length := by rw [size_nat, nat_enc]
  have lA : (enc n0).length ≤ 9 := leb_len9 (zig_range l0 u0)
  have lB : (enc n1).length ≤ 9 := leb_len9 (zig_range l1 u1)
  have pA : 0 < (enc n0).length := List.length_pos_iff.2 (leb_ne _)
  have hT : nat (str (enc (t.size : Int)) ++ t) = enc (t.size : Int) ++ nat t := by rw [nat_append, nat_enc]
  have hTs : (str (enc (t.size : Int)) ++ t).size = (enc (t.size : Int)).length + t.size := by rw [size_nat, hT, List.length_append, nat_length]
  have lT := enc_len t.size (by omega)
  have pT : 0 < (enc (t.size : Int)).length := List.length_pos_iff.2 (leb_ne _)
  refine ⟨20, ?_⟩
  unfold airchecklaw01_WireTruncated.f
  rw [sane_is 20 (by decide)]; simp only [Option.bind_some]
  rw [h0]; simp only [Option.bind_some]
  rw [put_ok l0 u0]; simp only [Option.bind_some]
  rw [h1]; simp only [Option.bind_some]
  rw [put_ok l1 u1]; simp only [Option.bind_some]
  rw [hm, if_pos m0, if_pos m1, Int.toNat_natCast, ht, putS_ok t (by omega)]; simp only [Option.bind_some]
  rw [if_pos trivial, if_pos trivial, if_pos trivial, if_neg (by omega)]
  have hz : (((str (enc (t.size : Int)) ++ t).size : Int) == 0) = false := beq_eq_false_iff_ne.2 (by omega)
  rw [hz]
  generalize hTT : str (enc (t.size : Int)) ++ t = T at *
  generalize hAA : str (enc n0) = A at *
  generalize hBB : str (enc n1) = B at *
  have nA : nat A = enc n0 := by rw [← hAA, nat_enc]
  have nB : nat B = enc n1 := by rw [← hBB, nat_enc]
  simp only [airchecklaw01_WireTruncated.j0]
  rw [if_neg (by decide)]
  obtain ⟨p, hp, p0, p1⟩ := pick_is (wf64 w3).1 (wf64 w3).2 (n := (A.size : Int)) (by omega)
  rw [hp]; simp only [Option.bind_some]
  rw [if_pos p0, if_pos (by omega)]
  obtain ⟨p, rfl⟩ := Int.eq_ofNat_of_zero_le p0
  rw [Int.toNat_natCast]
  have e1 : dec (A.extract 0 p) 0 = (0, 0, 10) := by
    refine dec_no (A.extract 0 p) 0 (Nat.zero_le _) ?_
    rw [nat_extract, List.drop_zero, List.drop_zero, Nat.sub_zero]
    exact no_start (z := zig n0) nA (by rw [nA]; omega)
  rw [int_is _ (by rw [size_cut _ _ (by omega)]; omega) 0 19 (by decide), e1]; simp only [Option.bind_some]
  obtain ⟨q, hq, q0, q1⟩ := pick_is (wf64 w3).1 (wf64 w3).2 (n := (T.size : Int)) (by omega)
  rw [hq]; simp only [Option.bind_some]
  rw [if_pos q0, if_pos (by omega)]
  obtain ⟨q, rfl⟩ := Int.eq_ofNat_of_zero_le q0
  rw [Int.toNat_natCast]
  have e2 : wire_String.f 19 (T.extract 0 q) 0 = some (⟨#[]⟩, 0, 10) := by
    refine str_no (T.extract 0 q) (by rw [size_cut _ _ (by omega)]; omega) 0 (Nat.zero_le _) 19 (by decide) ?_
    rw [nat_extract, List.drop_zero, List.drop_zero, Nat.sub_zero]
    exact no_startS (t := nat t) (by rw [hT, nat_length]) (by rw [nat_length]; omega)
  rw [e2]; simp only [Option.bind_some]
  rw [h0, h1]; simp only [Option.bind_some]
  by_cases hab : (A.size : Int) ≤ (B.size : Int)
  · rw [if_pos hab, if_pos (by omega), if_pos trivial, if_pos trivial, if_pos trivial, Int.toNat_natCast]
    congr 1
    rw [beq_iff_eq, Bool.eq_iff_iff, beq_iff_eq, beq_iff_eq, toList_nat, nat_extract, List.drop_zero, Nat.sub_zero, nB, nA, hA]
    constructor
    · intro h
      have : leb (zig n0) ++ (enc n1).drop (enc n0).length = leb (zig n1) ++ [] := by
        show enc n0 ++ _ = enc n1 ++ []
        rw [List.append_nil]
        conv => rhs; rw [← List.take_append_drop (enc n0).length (enc n1), h]
      exact zig_inj (leb_prefix this).1
    · intro h; rw [h, List.take_length]
  · rw [if_neg hab, if_pos trivial, if_pos trivial, if_pos trivial]
    congr 1
    rw [beq_iff_eq, eq_comm, beq_eq_false_iff_ne]
    rintro rfl
    omega
end Go.Proofs.YtijnbalobinfiaaDoor.Pure
