import Derived.Test.YtijnbalobinfiaaDoorWireCut
import Derived.Test.YtijnbalobinfiaaDoorPWx16
/-
  What was encoded is decoded again, whatever surrounds it.
-/
set_option linter.unusedVariables false
namespace Go.Proofs.YtijnbalobinfiaaDoor.Pure
open Go.RowKit Go.Proofs.YtijnbalobinfiaaDoorW.PrintWords Go.Proofs.YtijnbalobinfiaaDoorW.PrintLast Go.Proofs.YtijnbalobinfiaaDoorW.PrintMore Go.Proofs.YtijnbalobinfiaaDoor.Ext Go.Proofs.YtijnbalobinfiaaDoor.PW Go.Proofs.YtijnbalobinfiaaDoor.WireSpec Leb
theorem WireRoundTrip (a0 : Int) (a1 a2_0 a2_1 : ByteArray) (w0 : (Lit.int .i64 a0).wf = true) (w1 : a1.size ≤ 140737488351232) :
    ∃ k, airchecklaw01_WireRoundTrip.f k a0 a1 a2_0 a2_1 = some true := by
  obtain ⟨n, h0, l0, u0⟩ := number_is (wf64 w0).1 (wf64 w0).2
  obtain ⟨i, hi, i1, i2, hp⟩ := cut_is a2_0 200
  obtain ⟨j, hj, j1, j2, hq⟩ := cut_is a2_1 200
  obtain ⟨m, hm, m1, m2, ht⟩ := cut_is a1 200
  generalize hp' : a2_0.extract 0 i = p at *
  generalize hq' : a2_1.extract 0 j = q at *
  generalize ht' : a1.extract 0 m = t at *
  have lA : (enc n).length ≤ 9 := leb_len9 (zig_range l0 u0)
  have lT := enc_len t.size (by omega)
  have sA := enc_size n
  have sT := encS_size t
  have eT := encS_len t
  have nA := nat_enc n
  have nT := encS_nat t
  refine ⟨20, ?_⟩
  unfold airchecklaw01_WireRoundTrip.f
  rw [sane_is 20 (by decide)]; simp only [Option.bind_some]
  rw [h0]; simp only [Option.bind_some]
  simp only [show (200 : Int) = ((200 : Nat) : Int) from rfl, hi, hj, hm, Int.toNat_natCast, hp', hq', ht']
  rw [if_pos (by omega), if_pos (by omega), if_pos (by omega), if_pos (by omega), if_pos (by omega), if_pos (by omega), put_ok l0 u0]; simp only [Option.bind_some]
  rw [putS_ok t (by omega)]; simp only [Option.bind_some]
  generalize str (enc n) = A at *
  generalize str (enc (t.size : Int)) ++ t = T at *
  have s1 : (p ++ A).size = p.size + A.size := ByteArray.size_append
  have s2 : (p ++ T).size = p.size + T.size := ByteArray.size_append
  have s3 : (p ++ A ++ q).size = (p ++ A).size + q.size := ByteArray.size_append
  have s4 : (p ++ T ++ q).size = (p ++ T).size + q.size := ByteArray.size_append
  rw [if_pos (by omega), if_pos (by omega)]
  have d1 : (nat (p ++ A ++ q)).drop p.size = enc n ++ nat q := by
    rw [nat_append, nat_append, nA, List.append_assoc, ← nat_length p, List.drop_left]
  have d2 : (nat (p ++ T ++ q)).drop p.size = encS t ++ nat q := by
    rw [nat_append, nat_append, nT, List.append_assoc, ← nat_length p, List.drop_left]
  have e1 : dec (p ++ A ++ q) (p.size : Int) = (n, ((p.size + A.size : Nat) : Int), 0) := by
    have := dec_yes (p ++ A ++ q) p.size (by omega) (by rw [d1]; exact enc_starts n (nat q) l0 u0)
    rw [zag_zig] at this
    rw [this, sA, enc]
  rw [int_is _ (by omega) _ 20 (by decide), e1]; simp only [Option.bind_some]
  rw [if_pos (by omega), if_pos (by omega)]
  obtain ⟨r, e2, e3⟩ := str_yes (p ++ T ++ q) (by omega) p.size (by omega) 20 (by decide) (t := nat t) (y := nat q) (by rw [d2]; exact encS_starts t (nat q) (by omega))
  rw [e2, Option.bind_some]
  have hr : r.toList = t.toList := (toList_nat _ _).2 e3
  rw [if_pos trivial, if_pos trivial, if_pos trivial, if_pos trivial, if_pos rfl, if_pos trivial, if_pos (by rw [w64 (by omega) (by omega)]; omega), if_pos hr]
  have hw : wrap64 ((p.size : Int) + (T.size : Int)) = ((p.size + (enc ((nat t).length : Int)).length + (nat t).length : Nat) : Int) := by
    rw [w64 (by omega) (by omega), nat_length]; omega
  rw [hw]
  exact congrArg some (beq_self_eq_true _)
end Go.Proofs.YtijnbalobinfiaaDoor.Pure
