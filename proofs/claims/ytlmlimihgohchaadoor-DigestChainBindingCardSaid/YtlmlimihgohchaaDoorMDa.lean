import Derived.Test.YtlmlimihgohchaaDoorMCa
import Derived.Test.YtlmlimihgohchaaDoorYTree
/-
  Texts of this claim, one behind the other: what they prove stands above each.
-/
section
/-
  What few, left and binary of the digest's laws come to.
-/
set_option linter.unusedVariables false
set_option linter.unusedSimpArgs false
namespace Go.Proofs.YtlmlimihgohchaaDoor.DigSpec
open Go.RowKit Go.Proofs.YtlmlimihgohchaaDoorW.PrintWords Go.Proofs.YtlmlimihgohchaaDoorW.PrintLast Go.Proofs.YtlmlimihgohchaaDoorW.PrintMore Go.Proofs.YtlmlimihgohchaaDoor.Ext Go.Proofs.YtlmlimihgohchaaDoor.PD
theorem w64 {x : Int} (h1 : -9223372036854775808 ≤ x) (h2 : x < 9223372036854775808) : wrap64 x = x := by unfold wrap64; omega
theorem wf64 {a : Int} (h : (Lit.int .i64 a).wf = true) : -9223372036854775808 ≤ a ∧ a ≤ 9223372036854775807 := by
  simpa [Lit.wf, IntKind.min, IntKind.max, IntKind.signed, IntKind.bits] using h
/-- a string's beginning -/
def cut (n : Nat) (s : ByteArray) : ByteArray := s.extract 0 (min s.size n)
theorem cut_size (n : Nat) (s : ByteArray) : (cut n s).size = min s.size n := by
  unfold cut; rw [ByteArray.size_extract]; omega
theorem mn_is (s : ByteArray) (n : Nat) : mn (s.size : Int) (n : Int) = ((min s.size n : Nat) : Int) := by
  unfold mn; split <;> omega
theorem few_l0 (l : List ByteArray) (n : Nat) (hn : n ≤ 1000) : ∀ (d j k : Nat), j + d = min l.length n → d < k →
    airchecklaw02_few.l0 k l (n : Int) (((l.take n).map (cut 60)).take j) (j : Int) = some ((l.take n).map (cut 60)) := by
  intro d
  induction d with
  | zero =>
    intro j k hj hk
    obtain ⟨k, rfl⟩ := Nat.exists_eq_succ_of_ne_zero (Nat.pos_iff_ne_zero.1 hk)
    have hfull : ((l.take n).map (cut 60)).take j = (l.take n).map (cut 60) := List.take_of_length_le (by simp; omega)
    unfold airchecklaw02_few.l0
    rw [hfull]
    by_cases h1 : (j : Int) < (l.length : Int)
    · rw [if_pos h1, if_neg (by omega)]
    · rw [if_neg h1]
  | succ d ih =>
    intro j k hj hk
    obtain ⟨k, rfl⟩ := Nat.exists_eq_succ_of_ne_zero (Nat.pos_iff_ne_zero.1 (Nat.lt_of_le_of_lt (Nat.zero_le _) hk))
    have hjl : j < l.length := by omega
    have hjn : j < n := by omega
    unfold airchecklaw02_few.l0
    have hc : mn ((rdOf ByteArray.empty l (j : Int)).size : Int) 60 = ((min (rdOf ByteArray.empty l (j : Int)).size 60 : Nat) : Int) := mn_is _ 60
    rw [if_pos (by omega), if_pos (by omega), if_pos (by omega), hc, if_pos (by omega), if_pos (by omega), if_pos (by rw [List.length_take]; omega), w64 (by omega) (by omega)]
    have he : ((l.take n).map (cut 60)).take j ++ [(rdOf ByteArray.empty l (j : Int)).extract 0 (((min (rdOf ByteArray.empty l (j : Int)).size 60 : Nat) : Int)).toNat] = ((l.take n).map (cut 60)).take (j + 1) := by
      rw [List.take_add_one]
      congr 1
      simp only [List.getElem?_map, List.getElem?_take, if_pos hjn, List.getElem?_eq_getElem hjl, Option.map_some, Option.toList_some]
      congr 1
      unfold rdOf cut
      simp [List.getD, List.getElem?_eq_getElem hjl]
    rw [he, show (j : Int) + 1 = ((j + 1 : Nat) : Int) by omega]
    exact ih (j + 1) k (by omega) (by omega)
theorem few_is (l : List ByteArray) (n k : Nat) (hn : n ≤ 1000) (hk : n < k) : airchecklaw02_few.f k l (n : Int) = some ((l.take n).map (cut 60)) := by
  unfold airchecklaw02_few.f
  exact few_l0 l n hn (min l.length n) 0 k (by omega) (by omega)
theorem few_len (l : List ByteArray) (n : Nat) : ((l.take n).map (cut 60)).length ≤ n := by simp; omega
theorem few_size (l : List ByteArray) (n : Nat) : ∀ x ∈ (l.take n).map (cut 60), x.size ≤ 60 := by
  intro x hx
  obtain ⟨y, _, rfl⟩ := List.mem_map.1 hx
  rw [cut_size]; omega
/-- how many binary digits a number has -/
def digits (n : Nat) : Nat := if n = 0 then 0 else Nat.log2 n + 1
theorem digits_half {n : Nat} (h : n ≠ 0) : digits n = digits (n / 2) + 1 := by
  unfold digits
  rw [if_neg h]
  by_cases h2 : 2 ≤ n
  · rw [if_neg (by omega), Nat.log2_def, if_pos h2]
  · rw [if_pos (by omega), Nat.log2_def, if_neg h2]
theorem lt_digits (n : Nat) : n < 2 ^ digits n := by
  unfold digits
  split
  · rename_i h; subst h; decide
  · exact Nat.lt_log2_self
theorem binary_l0 : ∀ (d n x k : Nat), n < 2 ^ d → d < k → x + d ≤ 1000000 → n ≤ 9223372036854775807 →
    airchecklaw02_binary.l0 k (n : Int) (x : Int) = some ((x + digits n : Nat) : Int) := by
  intro d
  induction d with
  | zero =>
    intro n x k h hk hx hn
    obtain ⟨k, rfl⟩ := Nat.exists_eq_succ_of_ne_zero (Nat.pos_iff_ne_zero.1 hk)
    obtain rfl : n = 0 := by simpa using h
    unfold airchecklaw02_binary.l0
    rw [if_neg (by omega)]
    simp [digits]
  | succ d ih =>
    intro n x k h hk hx hn
    obtain ⟨k, rfl⟩ := Nat.exists_eq_succ_of_ne_zero (Nat.pos_iff_ne_zero.1 (Nat.lt_of_le_of_lt (Nat.zero_le _) hk))
    unfold airchecklaw02_binary.l0
    by_cases h0 : n = 0
    · subst h0
      rw [if_neg (by omega)]
      simp [digits]
    · rw [Nat.pow_succ] at h
      rw [if_pos (by omega), Int.tdiv_eq_ediv_of_nonneg (by omega), w64 (x := (n : Int) / 2) (by omega) (by omega), w64 (by omega) (by omega), show (n : Int) / 2 = ((n / 2 : Nat) : Int) by omega, show (x : Int) + 1 = ((x + 1 : Nat) : Int) by omega]
      rw [ih (n / 2) (x + 1) k (by omega) (by omega) (by omega) (by omega), digits_half h0]
      congr 2
      omega
theorem binary_is (n k : Nat) (hn : n ≤ 9223372036854775807) (hk : 64 < k) : airchecklaw02_binary.f k (n : Int) = some ((digits n : Nat) : Int) := by
  unfold airchecklaw02_binary.f
  have := binary_l0 64 n 0 k (by omega) hk (by omega) hn
  simpa using this
end Go.Proofs.YtlmlimihgohchaaDoor.DigSpec
end
section
/-
  Small laws on strings, digests and what the digest's functions answer.
-/
set_option linter.unusedVariables false
set_option linter.unusedSimpArgs false
namespace Go.Proofs.YtlmlimihgohchaaDoor.DigSpec
open Go.RowKit Go.Proofs.YtlmlimihgohchaaDoorW.PrintWords Go.Proofs.YtlmlimihgohchaaDoorW.PrintLast Go.Proofs.YtlmlimihgohchaaDoorW.PrintMore Go.Proofs.YtlmlimihgohchaaDoor.Ext Go.Proofs.YtlmlimihgohchaaDoor.PD
theorem toList_is (s : ByteArray) : s.toList = s.data.toList := Lib.toList_data s
theorem toList_inj {s t : ByteArray} : s.toList = t.toList ↔ s = t := by
  rw [toList_is, toList_is]
  constructor
  · intro h; exact ba_ext h
  · intro h; rw [h]
theorem rdOf_nat {l : List ByteArray} {i : Nat} {x : ByteArray} (h : l[i]? = some x) : rdOf ByteArray.empty l (i : Int) = x := by
  unfold rdOf; rw [Int.toNat_natCast, List.getD_eq_getElem?_getD, h]; rfl
theorem sum_ok (s : ByteArray) (h : s.size ≤ 140737488350000) : digest_Sum.f s = some (Ext.hash s) := by
  unfold digest_Sum.f; rw [if_pos h]; rfl
/-- what Leaf and Node hash -/
def preL (s : ByteArray) : ByteArray := ⟨#[0]⟩ ++ s
def preN (a b : ByteArray) : ByteArray := ⟨#[1]⟩ ++ (a ++ b)
theorem data_append (a b : ByteArray) : (a ++ b).data.toList = a.data.toList ++ b.data.toList := by simp [ByteArray.data_append]
theorem all_dig (l : List ByteArray) : l.all dig32 = true ↔ ∀ x ∈ l, x.size = 32 := by
  simp [List.all_eq_true, dig32]
theorem few_ok (k : Nat) (l : List ByteArray) (n : Nat) (h : n ≤ 1000) (hk : n < k) (z : Int) (hz : z = (n : Int)) : ∃ P : List ByteArray, airchecklaw02_few.f k l z = some P ∧ P.length ≤ n ∧ (∀ x ∈ P, x.size ≤ 60) ∧ P = (l.take n).map (cut 60) :=
  ⟨_, hz ▸ few_is l n k h hk, few_len l n, few_size l n, rfl⟩
end Go.Proofs.YtlmlimihgohchaaDoor.DigSpec
end
section
/-
  The examples of the digest's laws hold.
-/
set_option linter.unusedVariables false
set_option linter.unusedSimpArgs false
namespace Go.Proofs.YtlmlimihgohchaaDoor.DigSpec
open Go.RowKit Go.Proofs.YtlmlimihgohchaaDoorW.PrintWords Go.Proofs.YtlmlimihgohchaaDoorW.PrintLast Go.Proofs.YtlmlimihgohchaaDoorW.PrintMore Go.Proofs.YtlmlimihgohchaaDoor.Ext Go.Proofs.YtlmlimihgohchaaDoor.PD
def hd (n : Nat) : Nat := if n < 10 then 48 + n else 87 + n
def hexN (l : List Nat) : List Nat := l.flatMap fun b => [hd (b / 16), hd (b % 16)]
theorem hexdig : ∀ n : Nat, n < 16 → (⟨#[48, 49, 50, 51, 52, 53, 54, 55, 56, 57, 97, 98, 99, 100, 101, 102]⟩ : ByteArray).extract n (n + 1) = str [hd n] := by
  intro n hn
  have h : ∀ m : Fin 16, (⟨#[48, 49, 50, 51, 52, 53, 54, 55, 56, 57, 97, 98, 99, 100, 101, 102]⟩ : ByteArray).extract m.1 (m.1 + 1) = str [hd m.1] := by decide +kernel
  exact h ⟨n, hn⟩
theorem str_append (a b : List Nat) : str (a ++ b) = str a ++ str b := by
  apply ba_ext
  simp [str, ByteArray.data_append]
theorem str_size (a : List Nat) : (str a).size = a.length := by simp [str, ByteArray.size]
theorem hexN_append (a b : List Nat) : hexN (a ++ b) = hexN a ++ hexN b := by unfold hexN; rw [List.flatMap_append]
theorem hexN_length (a : List Nat) : (hexN a).length = 2 * a.length := by
  induction a with
  | nil => rfl
  | cons x a ih => rw [show x :: a = [x] ++ a from rfl, hexN_append, List.length_append, ih]; simp [hexN]; omega
theorem bt_is (s : ByteArray) (j : Nat) (h : j < s.size) : ∃ b : Nat, bt s (j : Int) = (b : Int) ∧ b < 256 ∧ (nat s)[j]? = some b := by
  refine ⟨(s.data[j]'h).toNat, ?_, UInt8.toNat_lt _, ?_⟩
  · unfold bt
    simp only [Int.toNat_natCast, dif_pos h]
    rfl
  · unfold nat
    rw [List.getElem?_map, Array.getElem?_toList, Array.getElem?_eq_getElem h]
    rfl
theorem hex_l0 (s : ByteArray) (hs : s.size ≤ 1000) : ∀ (d j k : Nat), j + d = s.size → d < k → airchecklaw02_hex.l0 k s (str (hexN ((nat s).take j))) (j : Int) = some (str (hexN (nat s))) := by
  intro d
  induction d with
  | zero =>
    intro j k hj hk
    obtain ⟨k, rfl⟩ : ∃ q, k = q + 1 := ⟨k - 1, by omega⟩
    unfold airchecklaw02_hex.l0
    rw [if_neg (by omega), List.take_of_length_le (by rw [nat_length]; omega)]
  | succ d ih =>
    intro j k hj hk
    obtain ⟨k, rfl⟩ : ∃ q, k = q + 1 := ⟨k - 1, by omega⟩
    obtain ⟨b, hb, hb2, hb3⟩ := bt_is s j (by omega)
    have e1 : (Int.tdiv (bt s (j : Int)) 16) % 256 = ((b / 16 : Nat) : Int) := by rw [hb, Int.tdiv_eq_ediv_of_nonneg (by omega)]; omega
    have e2 : Int.tmod (bt s (j : Int)) 16 = ((b % 16 : Nat) : Int) := by rw [hb, Int.tmod_eq_emod_of_nonneg (by omega)]; omega
    have e3 : (((b / 16 : Nat) : Int) + 1) % 256 = ((b / 16 + 1 : Nat) : Int) := by omega
    have e4 : (((b % 16 : Nat) : Int) + 1) % 256 = ((b % 16 + 1 : Nat) : Int) := by omega
    have hl : (hexN ((nat s).take j)).length ≤ 2000 := by rw [hexN_length, List.length_take, nat_length]; omega
    have hsz1 := str_size (hexN ((nat s).take j))
    have hq : str (hexN ((nat s).take j)) ++ str [hd (b / 16)] ++ str [hd (b % 16)] = str (hexN ((nat s).take (j + 1))) := by
      rw [← str_append, ← str_append, List.take_add_one, hexN_append, hb3]
      simp [hexN]
    unfold airchecklaw02_hex.l0
    rw [if_pos (by omega), if_pos (by omega)]
    simp only [e1, e2, e3, e4, Int.toNat_natCast, hexdig _ (show b / 16 < 16 by omega), hexdig _ (show b % 16 < 16 by omega)]
    rw [if_pos (by omega), if_pos (by omega), if_pos (by omega), if_pos (by rw [hsz1, str_size]; simp; omega), if_pos (by omega), if_pos (by omega), if_pos (by omega), if_pos (by rw [← str_append, str_size, str_size]; simp; omega), hq, w64 (by omega) (by omega), show (j : Int) + 1 = ((j + 1 : Nat) : Int) by omega]
    exact ih (j + 1) k (by omega) (by omega)
theorem hex_is (s : ByteArray) (hs : s.size ≤ 1000) (k : Nat) (hk : s.size < k) : airchecklaw02_hex.f k s = some (str (hexN (nat s))) := by
  unfold airchecklaw02_hex.f
  have := hex_l0 s hs s.size 0 k (by omega) hk
  simpa [hexN, str] using this
def xa : ByteArray := ⟨#[97]⟩
def xb : ByteArray := ⟨#[98]⟩
def xc : ByteArray := ⟨#[99]⟩
def xl : List ByteArray := [xa, xb, xc]
theorem xl_fits : fits xl := by unfold fits xl; exact ⟨by decide, fun x hx => by
  simp only [List.mem_cons, List.not_mem_nil, or_false] at hx
  rcases hx with rfl | rfl | rfl <;> decide⟩
theorem left3 : Tree.left 3 = 2 := Tree.left_eq (j := 1) (by omega) (by omega)
theorem left2 : Tree.left 2 = 1 := Tree.left_eq (j := 0) (by omega) (by omega)
theorem root2 (a b : ByteArray) : Tree.root dE dL dN [a, b] = dN (dL a) (dL b) := by
  rw [Tree.root_big _ _ _ (by simp)]
  simp only [List.length_cons, List.length_nil, Nat.zero_add, Nat.reduceAdd, left2]
  rw [show [a, b].take 1 = [a] from rfl, show [a, b].drop 1 = [b] from rfl, Tree.root_one, Tree.root_one]
theorem root3 (a b c : ByteArray) : Tree.root dE dL dN [a, b, c] = dN (dN (dL a) (dL b)) (dL c) := by
  rw [Tree.root_big _ _ _ (by simp)]
  simp only [List.length_cons, List.length_nil, Nat.zero_add, Nat.reduceAdd, left3]
  rw [show [a, b, c].take 2 = [a, b] from rfl, show [a, b, c].drop 2 = [c] from rfl, root2, Tree.root_one]
theorem proof3 (a b c : ByteArray) : Tree.proofR dE dL dN [a, b, c] 2 = [dN (dL a) (dL b)] := by
  rw [Tree.proofR_high _ _ _ (by simp) (by simp [left3])]
  simp only [List.length_cons, List.length_nil, Nat.zero_add, Nat.reduceAdd, left3, Nat.sub_self]
  rw [show [a, b, c].take 2 = [a, b] from rfl, show [a, b, c].drop 2 = [c] from rfl, root2, Tree.proofR_small _ _ _ (by simp)]
theorem part3 (a b c : ByteArray) : Tree.partR dE dL dN [a, b, c] 1 true = [dL c, dL b] := by
  rw [Tree.partR_low _ _ _ (by omega) (by simp) (by simp [left3])]
  simp only [List.length_cons, List.length_nil, Nat.zero_add, Nat.reduceAdd, left3]
  rw [show [a, b, c].take 2 = [a, b] from rfl, show [a, b, c].drop 2 = [c] from rfl, Tree.root_one, Tree.partR_low _ _ _ (by omega) (by simp) (by simp [left2])]
  simp only [List.length_cons, List.length_nil, Nat.zero_add, Nat.reduceAdd, left2]
  rw [show [a, b].take 1 = [a] from rfl, show [a, b].drop 1 = [b] from rfl, Tree.root_one, Tree.partR_end _ _ _ (by simp), if_pos rfl]
theorem ver3 (x s : ByteArray) (r : ByteArray) (hx : x.size = 32) : verifyB r 3 2 s [x] = decide (dN x (dL s) = r) := by
  unfold verifyB
  have h1 : Tree.value dL dN 3 2 s [x] = some (dN x (dL s)) := by
    rw [Tree.value_high _ _ (by omega) (by simp [left3]), left3]
    simp [Tree.value_one_nil]
  have e : (3 : Int).toNat = 3 := rfl
  have e2 : (2 : Int).toNat = 2 := rfl
  simp [h1, dig32, hx, e, e2]
theorem ext3 (o r y z : ByteArray) (ho : o.size = 32) (hr : r.size = 32) (hy : y.size = 32) (hz : z.size = 32) : extB o 1 r 3 [z, y] = decide (dN (dN o z) y = r) := by
  unfold extB
  have h1 : Tree.both dN o 1 3 [y, z] true = some (o, dN (dN o z) y) := by
    rw [Tree.both_low _ (by omega) (by simp [left3]), left3, Tree.both_low _ (by omega) (by simp [left2]), left2, Tree.both_whole _ (by omega), if_pos rfl]
    rfl
  have e : (3 : Int).toNat = 3 := rfl
  have e2 : (1 : Int).toNat = 1 := rfl
  simp [h1, dig32, ho, hr, hy, hz, e, e2]
/-- what is reckoned out -/
theorem sum_e : hexN (nat dE) = [101, 51, 98, 48, 99, 52, 52, 50, 57, 56, 102, 99, 49, 99, 49, 52, 57, 97, 102, 98, 102, 52, 99, 56, 57, 57, 54, 102, 98, 57, 50, 52, 50, 55, 97, 101, 52, 49, 101, 52, 54, 52, 57, 98, 57, 51, 52, 99, 97, 52, 57, 53, 57, 57, 49, 98, 55, 56, 53, 50, 98, 56, 53, 53] := by decide +kernel
theorem sum_abc : hexN (nat (Ext.hash ⟨#[97, 98, 99]⟩)) = [98, 97, 55, 56, 49, 54, 98, 102, 56, 102, 48, 49, 99, 102, 101, 97, 52, 49, 52, 49, 52, 48, 100, 101, 53, 100, 97, 101, 50, 50, 50, 51, 98, 48, 48, 51, 54, 49, 97, 51, 57, 54, 49, 55, 55, 97, 57, 99, 98, 52, 49, 48, 102, 102, 54, 49, 102, 50, 48, 48, 49, 53, 97, 100] := by decide +kernel
theorem odd1 : nat (dN (dN (dL xa) (dL xb)) (dL ⟨#[100]⟩)) ≠ nat (dN (dN (dL xa) (dL xb)) (dL xc)) := by decide +kernel
theorem odd2 : nat (dN (dN (dN (dL xa) (dL xb)) (dL xb)) (dL xc)) ≠ nat (dN (dN (dL xa) (dL xb)) (dL xc)) := by decide +kernel
theorem pr2 : digest_Proof.f xl 2 = some ([dN (dL xa) (dL xb)], 0) := by
  unfold digest_Proof.f
  rw [if_pos xl_fits, if_pos (by unfold xl; decide), show (2 : Int).toNat = 2 from rfl, show xl = [xa, xb, xc] from rfl, proof3]; rfl
theorem pr3 : digest_Proof.f xl 3 = some ([], 2) := by
  unfold digest_Proof.f
  rw [if_pos xl_fits, if_neg (by unfold xl; decide)]
theorem ex1 : digest_Extension.f xl 1 = some ([dL xb, dL xc], 0) := by
  unfold digest_Extension.f
  rw [if_pos xl_fits, if_pos (by unfold xl; decide), if_neg (by decide), show (1 : Int).toNat = 1 from rfl, show xl = [xa, xb, xc] from rfl, part3]; rfl
theorem ro3 : digest_Root.f xl = some (dN (dN (dL xa) (dL xb)) (dL xc)) := by
  unfold digest_Root.f
  rw [if_pos xl_fits, show xl = [xa, xb, xc] from rfl, root3]
theorem ro1 : digest_Root.f (xl.take 1) = some (dL xa) := by
  unfold digest_Root.f
  rw [if_pos ⟨by decide, fun x hx => xl_fits.2 x (List.mem_of_mem_take hx)⟩, show xl.take 1 = [xa] from rfl, Tree.root_one]
theorem ro2 : digest_Root.f (xl.take 2) = some (dN (dL xa) (dL xb)) := by
  unfold digest_Root.f
  rw [if_pos ⟨by decide, fun x hx => xl_fits.2 x (List.mem_of_mem_take hx)⟩, show xl.take 2 = [xa, xb] from rfl, root2]
theorem fits_of {l : List ByteArray} (hl : l.length ≤ 1000000) (h : ∀ x ∈ l, x.size ≤ 1000000) : fits l := ⟨hl, fun x hx => Nat.le_trans (h x hx) (by omega)⟩
theorem verify_ok (r : ByteArray) (n i : Int) (s : ByteArray) (l : List ByteArray) (hf : fits l) (hs : s.size ≤ 140737488349000) (hn : -9223372036854775808 ≤ n ∧ n ≤ 9223372036854775807) (hi : -9223372036854775808 ≤ i ∧ i ≤ 9223372036854775807) :
    digest_Verify.f r n i s l = some (verifyB r n i s l) := by
  unfold digest_Verify.f; rw [if_pos ⟨⟨hf, hs⟩, hn, hi⟩]
theorem ext_ok (o : ByteArray) (m : Int) (r : ByteArray) (n : Int) (l : List ByteArray) (hf : fits l) (ho : o.size ≤ 9223372036854775807) (hr : r.size ≤ 9223372036854775807) (hm : -9223372036854775808 ≤ m ∧ m ≤ 9223372036854775807) (hn : -9223372036854775808 ≤ n ∧ n ≤ 9223372036854775807) :
    digest_VerifyExtension.f o m r n l = some (extB o m r n l) := by
  unfold digest_VerifyExtension.f; rw [if_pos ⟨⟨hf, ho, hr⟩, hm, hn⟩]
theorem one_fits (x : ByteArray) (hx : x.size = 32) : fits [x] := fits_of (by simp) (fun y hy => by rw [List.mem_singleton.1 hy]; omega)
theorem two_fits (x y : ByteArray) (hx : x.size = 32) (hy : y.size = 32) : fits [x, y] := fits_of (by simp) (fun z hz => by
  simp only [List.mem_cons, List.not_mem_nil, or_false] at hz
  rcases hz with rfl | rfl <;> omega)
theorem nat_str_hexN (s : ByteArray) (l : List Nat) (h : hexN (nat s) = l) (u : List UInt8) (hu : u = l.map UInt8.ofNat) : (str (hexN (nat s))).toList = u := by
  rw [toList_is, h, hu]; simp [str]
theorem j0_is (k : Nat) (x p a b r : _) : airchecklaw02_sane.j0 (k + 1) x [p] 0 [a, b] 0 2 r true = airchecklaw02_sane.j1 k x [p] [a, b] r true true := by
  rw [airchecklaw02_sane.j0, if_pos rfl, if_pos (by simp), if_pos rfl, if_pos (by simp)]
  rfl
theorem abc_list : (str (hexN (nat (Ext.hash ⟨#[97, 98, 99]⟩)))).toList = ([98, 97, 55, 56, 49, 54, 98, 102, 56, 102, 48, 49, 99, 102, 101, 97, 52, 49, 52, 49, 52, 48, 100, 101, 53, 100, 97, 101, 50, 50, 50, 51, 98, 48, 48, 51, 54, 49, 97, 51, 57, 54, 49, 55, 55, 97, 57, 99, 98, 52, 49, 48, 102, 102, 54, 49, 102, 50, 48, 48, 49, 53, 97, 100] : List UInt8) := nat_str_hexN _ _ sum_abc _ (by decide)
theorem sane_is (k : Nat) (hk : 70 ≤ k) : airchecklaw02_sane.f k = some true := by
  obtain ⟨k, rfl⟩ : ∃ q, k = q + 2 := ⟨k - 2, by omega⟩
  have n1 : dN (dN (dL xa) (dL xb)) (dL ⟨#[100]⟩) ≠ dN (dN (dL xa) (dL xb)) (dL xc) := fun e => odd1 (by rw [e])
  have n2 : dN (dN (dN (dL xa) (dL xb)) (dL xb)) (dL xc) ≠ dN (dN (dL xa) (dL xb)) (dL xc) := fun e => odd2 (by rw [e])
  unfold airchecklaw02_sane.f
  rw [show ([(⟨#[97]⟩ : ByteArray), (⟨#[98]⟩ : ByteArray), (⟨#[99]⟩ : ByteArray)] : List ByteArray) = xl from rfl, Option.bind_some, pr2, Option.bind_some, ex1, Option.bind_some, pr3, Option.bind_some, ro3, Option.bind_some,
    sum_ok _ (by decide), Option.bind_some, hex_is _ (by rw [hash_size]; omega) _ (by rw [hash_size]; omega), Option.bind_some, if_pos (nat_str_hexN _ _ sum_e _ (by decide)), sum_ok _ (by decide), Option.bind_some, hex_is _ (by rw [hash_size]; omega) _ (by rw [hash_size]; omega), Option.bind_some,
    abc_list, beq_self_eq_true]
  refine (j0_is _ _ _ _ _ _).trans ?_
  rw [airchecklaw02_sane.j1, if_pos (by decide), if_pos (by decide), verify_ok _ _ _ _ _ (one_fits _ (hash_size _)) (by decide) (by decide) (by decide), Option.bind_some, show (⟨#[99]⟩ : ByteArray) = xc from rfl, ver3 _ _ _ (hash_size _), if_pos (by simp),
    verify_ok _ _ _ _ _ (one_fits _ (hash_size _)) (by decide) (by decide) (by decide), Option.bind_some, ver3 _ _ _ (hash_size _), decide_eq_false n1, if_neg (by decide), if_pos (by decide), ro1, Option.bind_some,
    ext_ok _ _ _ _ _ (two_fits _ _ (hash_size _) (hash_size _)) (by rw [hash_size]; omega) (by rw [hash_size]; omega) (by decide) (by decide), Option.bind_some, ext3 _ _ _ _ (hash_size _) (hash_size _) (hash_size _) (hash_size _), if_pos (by simp), if_pos (by decide), ro2, Option.bind_some,
    ext_ok _ _ _ _ _ (two_fits _ _ (hash_size _) (hash_size _)) (by rw [hash_size]; omega) (by rw [hash_size]; omega) (by decide) (by decide), Option.bind_some, ext3 _ _ _ _ (hash_size _) (hash_size _) (hash_size _) (hash_size _), decide_eq_false n2]
  rfl
end Go.Proofs.YtlmlimihgohchaaDoor.DigSpec
end
