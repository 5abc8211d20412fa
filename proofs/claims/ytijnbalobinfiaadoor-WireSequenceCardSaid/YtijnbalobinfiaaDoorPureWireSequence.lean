import Derived.Test.YtijnbalobinfiaaDoorWireCut
import Derived.Lib.Hide
import Derived.Test.YtijnbalobinfiaaDoorPWx18
/-
  A concatenation of codes is decoded into the same values.
-/
set_option linter.unusedVariables false
namespace Go.Proofs.YtijnbalobinfiaaDoor.Pure
open Go.RowKit Go.Proofs.YtijnbalobinfiaaDoorW.PrintWords Go.Proofs.YtijnbalobinfiaaDoorW.PrintLast Go.Proofs.YtijnbalobinfiaaDoorW.PrintMore Go.Proofs.YtijnbalobinfiaaDoor.Ext Go.Proofs.YtijnbalobinfiaaDoor.PW Go.Proofs.YtijnbalobinfiaaDoor.WireSpec Leb
section
variable (num : Nat → Int) (txt : Nat → ByteArray)
/-- the codes of the items from i on -/
def codes : Nat → Nat → List Nat
  | 0, _ => []
  | d + 1, i => enc (num i) ++ (encS (txt i) ++ codes d (i + 1))
end
/-- what is known of the arguments -/
structure Known (l0 : List Int) (l1 : List ByteArray) (n : Nat) (num : Nat → Int) (txt : Nat → ByteArray) : Prop where
  n0 : n ≤ l0.length
  n1 : n ≤ l1.length
  n20 : n ≤ 20
  num_is : ∀ i, i < n → airchecklaw01_NumberFrom.f (rd l0 (i : Int)) = some (num i)
  num_lo : ∀ i, i < n → -4611686018427387903 ≤ num i
  num_hi : ∀ i, i < n → num i ≤ 4611686018427387903
  txt_is : ∀ i, i < n → 0 ≤ mn ((rdOf ByteArray.empty l1 (i : Int)).size : Int) 100 ∧ mn ((rdOf ByteArray.empty l1 (i : Int)).size : Int) 100 ≤ ((rdOf ByteArray.empty l1 (i : Int)).size : Int) ∧
    (rdOf ByteArray.empty l1 (i : Int)).extract 0 (mn ((rdOf ByteArray.empty l1 (i : Int)).size : Int) 100).toNat = txt i
  txt_len : ∀ i, i < n → (txt i).size ≤ 100
theorem code_len {l0 : List Int} {l1 : List ByteArray} {n : Nat} {num : Nat → Int} {txt : Nat → ByteArray} (K : Known l0 l1 n num txt) (i : Nat) (hi : i < n) : (enc (num i)).length ≤ 9 ∧ (encS (txt i)).length ≤ 103 := by
  have h1 : (enc (num i)).length ≤ 9 := leb_len9 (zig_range (K.num_lo i hi) (K.num_hi i hi))
  have h2 := K.txt_len i hi
  have h3 := enc_len (txt i).size (by omega)
  rw [encS_len]
  omega
theorem seq_put {l0 : List Int} {l1 : List ByteArray} {n : Nat} {num : Nat → Int} {txt : Nat → ByteArray} (K : Known l0 l1 n num txt) (d : Nat) : ∀ (i k : Nat) (s : ByteArray), i + d = n → d < k → s.size ≤ 112 * i →
    ∃ s' : ByteArray, nat s' = nat s ++ codes num txt d i ∧ s'.size ≤ 112 * n ∧ airchecklaw01_WireSequence.l0 k l0 l1 true (n : Int) s (i : Int) = airchecklaw01_WireSequence.l1 (k - d - 1) l0 l1 true (n : Int) s' 0 0 := by
  induction d with
  | zero =>
    intro i k s hi hk hs
    obtain ⟨k, rfl⟩ : ∃ m, k = m + 1 := ⟨k - 1, by omega⟩
    refine ⟨s, by simp [codes], by omega, ?_⟩
    rw [airchecklaw01_WireSequence.l0, if_neg (by omega), show k + 1 - 0 - 1 = k by omega]
  | succ d ih =>
    intro i k s hi hk hs
    obtain ⟨k, rfl⟩ : ∃ m, k = m + 1 := ⟨k - 1, by omega⟩
    have hlt : i < n := by omega
    obtain ⟨t1, t2, t3⟩ := K.txt_is i hlt
    have h20 := K.n20
    obtain ⟨c1, c2⟩ := code_len K i hlt
    have hn0 := K.n0
    have hn1 := K.n1
    have hT := K.txt_len i hlt
    have sA := enc_size (num i)
    have sT := encS_size (txt i)
    have nA := nat_enc (num i)
    have nT := encS_nat (txt i)
    rw [airchecklaw01_WireSequence.l0, if_pos (by omega), if_pos (by omega), if_pos (by omega), K.num_is i hlt, Option.bind_some, put_ok (K.num_lo i hlt) (K.num_hi i hlt), Option.bind_some, if_pos (by omega), if_pos t1, if_pos t2, t3, putS_ok _ (by omega), Option.bind_some]
    generalize str (enc (num i)) = A at *
    generalize str (enc ((txt i).size : Int)) ++ txt i = T at *
    have s1 : (s ++ A).size = s.size + A.size := ByteArray.size_append
    have s2 : (s ++ A ++ T).size = (s ++ A).size + T.size := ByteArray.size_append
    have hw : Hid (wrap64 ((i : Int) + 1) = ((i + 1 : Nat) : Int)) := Lib.hid (by rw [w64 (by omega) (by omega)]; omega)
    have b1 : s.size + (A, (0 : Int)).1.size ≤ 9223372036854775807 := by show s.size + A.size ≤ _; omega
    have b2 : (s ++ (A, (0 : Int)).1).size + (T, (0 : Int)).1.size ≤ 9223372036854775807 := by show (s ++ A).size + T.size ≤ _; omega
    rw [if_pos (show (A, (0 : Int)).2 = 0 from rfl), if_pos (show (T, (0 : Int)).2 = 0 from rfl)]
    rw [if_pos b1, if_pos b2, hw.out]
    obtain ⟨s', e1, e2, e3⟩ := ih (i + 1) k (s ++ A ++ T) (by omega) (by omega) (by omega)
    refine ⟨s', ?_, e2, ?_⟩
    · rw [e1, nat_append, nat_append, nA, nT]; simp [codes]
    · rw [e3, show k + 1 - (d + 1) - 1 = k - d - 1 by omega]
theorem seq_get {l0 : List Int} {l1 : List ByteArray} {n : Nat} {num : Nat → Int} {txt : Nat → ByteArray} (K : Known l0 l1 n num txt) (s : ByteArray) (hs : s.size ≤ 112 * n) (d : Nat) : ∀ (i k c : Nat), i + d = n → d + 12 < k → c ≤ s.size → (nat s).drop c = codes num txt d i →
    airchecklaw01_WireSequence.l1 k l0 l1 true (n : Int) s (c : Int) (i : Int) = some true := by
  have h20 := K.n20
  induction d with
  | zero =>
    intro i k c hi hk hc hd
    obtain ⟨k, rfl⟩ : ∃ m, k = m + 1 := ⟨k - 1, by omega⟩
    have hl := congrArg List.length hd
    simp only [List.length_drop, nat_length, codes, List.length_nil] at hl
    have hno : ∀ z y, ¬ Starts ((nat s).drop c) z y := fun z y h => by
      have := h.1
      rw [hd] at this
      have := congrArg List.length this
      have h2 : 0 < (leb z).length := List.length_pos_iff.2 (leb_ne z)
      simp [codes] at this
      omega
    rw [airchecklaw01_WireSequence.l1, if_neg (by omega), int_is s (by omega) _ k (by omega), dec_no s c hc hno, Option.bind_some, if_pos rfl, if_pos (by omega)]
    rfl
  | succ d ih =>
    intro i k c hi hk hc hd
    obtain ⟨k, rfl⟩ : ∃ m, k = m + 1 := ⟨k - 1, by omega⟩
    have hlt : i < n := by omega
    obtain ⟨t1, t2, t3⟩ := K.txt_is i hlt
    obtain ⟨c1, c2⟩ := code_len K i hlt
    have hn0 := K.n0
    have hn1 := K.n1
    have hT := K.txt_len i hlt
    have hd1 : (nat s).drop c = enc (num i) ++ (encS (txt i) ++ codes num txt d (i + 1)) := hd
    have hl := congrArg List.length hd1
    simp only [List.length_drop, nat_length, List.length_append] at hl
    have hd2 : (nat s).drop (c + (enc (num i)).length) = encS (txt i) ++ codes num txt d (i + 1) := by rw [← List.drop_drop, hd1, List.drop_left]
    have hd3 : (nat s).drop (c + (enc (num i)).length + (encS (txt i)).length) = codes num txt d (i + 1) := by rw [← List.drop_drop, hd2, List.drop_left]
    have e1 := dec_yes s c hc (by rw [hd1]; exact enc_starts (num i) _ (K.num_lo i hlt) (K.num_hi i hlt))
    rw [zag_zig] at e1
    obtain ⟨r, e2, e3⟩ := str_yes s (by omega) (c + (enc (num i)).length) (by omega) k (by omega) (t := nat (txt i)) (y := codes num txt d (i + 1)) (by rw [hd2]; exact encS_starts (txt i) _ (by omega))
    have hend : c + (enc (num i)).length + (enc ((nat (txt i)).length : Int)).length + (nat (txt i)).length = c + (enc (num i)).length + (encS (txt i)).length := by
      rw [nat_length, encS_len]; omega
    rw [hend] at e2
    have hw : Hid (wrap64 ((i : Int) + 1) = ((i + 1 : Nat) : Int)) := Lib.hid (by rw [w64 (by omega) (by omega)]; omega)
    have e4 := ih (i + 1) k (c + (enc (num i)).length + (encS (txt i)).length) (by omega) (by omega) (by omega) hd3
    have e5 : (dec s (c : Int)) = (num i, ((c + (enc (num i)).length : Nat) : Int), 0) := e1
    rw [airchecklaw01_WireSequence.l1, if_pos (by omega), int_is s (by omega) _ k (by omega), e5, Option.bind_some]
    simp only
    rw [e2, Option.bind_some, if_pos trivial, if_pos rfl, if_pos (by omega), if_pos (by omega), K.num_is i hlt, Option.bind_some, if_pos rfl, if_pos (by omega), if_pos t1, if_pos t2, t3, if_pos ((toList_nat _ _).2 e3), hw.out]
    exact e4
theorem WireSequence (l0 : List Int) (l1 : List ByteArray) (w0 : ∀ x ∈ l0, (Lit.int .i64 x).wf = true) (w1 : ∀ x ∈ l1, x.size ≤ maxLen) :
    ∃ k, airchecklaw01_WireSequence.f k l0 l1 = some true := by
  obtain ⟨n, hn, n0, n1, n20⟩ : ∃ n : Nat, mn (mn (l0.length : Int) (l1.length : Int)) 20 = (n : Int) ∧ n ≤ l0.length ∧ n ≤ l1.length ∧ n ≤ 20 := by
    refine ⟨min (min l0.length l1.length) 20, ?_, by omega, by omega, by omega⟩
    unfold mn; (repeat' split) <;> omega
  have hnum : ∀ i, i < n → ∃ m : Int, airchecklaw01_NumberFrom.f (rd l0 (i : Int)) = some m ∧ -4611686018427387903 ≤ m ∧ m ≤ 4611686018427387903 := fun i hi => by
    have hm : rd l0 (i : Int) ∈ l0 := by
      unfold rd
      rw [Int.toNat_natCast, List.getD_eq_getElem?_getD, List.getElem?_eq_getElem (by omega)]
      exact List.getElem_mem _
    exact number_is (wf64 (w0 _ hm)).1 (wf64 (w0 _ hm)).2
  have K : Known l0 l1 n (fun i => (airchecklaw01_NumberFrom.f (rd l0 (i : Int))).getD 0) (fun i => (rdOf ByteArray.empty l1 (i : Int)).extract 0 (mn ((rdOf ByteArray.empty l1 (i : Int)).size : Int) 100).toNat) := by
    refine ⟨n0, n1, n20, fun i hi => ?_, fun i hi => ?_, fun i hi => ?_, fun i hi => ?_, fun i hi => ?_⟩
    · obtain ⟨m, h, _⟩ := hnum i hi; rw [h]; rfl
    · obtain ⟨m, h, h1, _⟩ := hnum i hi; simp only [h, Option.getD_some]; exact h1
    · obtain ⟨m, h, _, h1⟩ := hnum i hi; simp only [h, Option.getD_some]; exact h1
    · obtain ⟨a, b, _⟩ := mn_cut (rdOf ByteArray.empty l1 (i : Int)) 100 (by decide)
      exact ⟨a, b, rfl⟩
    · obtain ⟨a, b, c⟩ := mn_cut (rdOf ByteArray.empty l1 (i : Int)) 100 (by decide)
      show ((rdOf ByteArray.empty l1 (i : Int)).extract 0 (mn ((rdOf ByteArray.empty l1 (i : Int)).size : Int) 100).toNat).size ≤ 100
      rw [size_cut _ _ (by omega)]
      omega
  refine ⟨60, ?_⟩
  unfold airchecklaw01_WireSequence.f
  rw [sane_is 60 (by decide), Option.bind_some, hn]
  obtain ⟨s', e1, e2, e3⟩ := seq_put K n 0 60 (⟨#[]⟩ : ByteArray) (by omega) (by omega) (by simp [ByteArray.size])
  have e3' : airchecklaw01_WireSequence.l0 60 l0 l1 true (n : Int) (⟨#[]⟩ : ByteArray) 0 = _ := e3
  rw [e3']
  exact seq_get K s' e2 n 0 (60 - n - 1) 0 (by omega) (by omega) (by omega) (by rw [List.drop_zero, e1]; simp [nat])
end Go.Proofs.YtijnbalobinfiaaDoor.Pure
