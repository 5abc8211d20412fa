import Derived.Test.YtooogaogbffjfaaDoorMBookHeadsMatchReferenceaq
import Derived.Test.YtooogaogbffjfaaDoorMBookHeadsMatchReferenceba
import Derived.Test.YtooogaogbffjfaaDoorMBookHeadsMatchReferenceay
import Derived.Test.YtooogaogbffjfaaDoorMBookHeadsMatchReferencebf
import Derived.Test.YtooogaogbffjfaaDoorMBookHeadsMatchReferenceal
import Derived.Test.YtooogaogbffjfaaDoorMBookHeadsMatchReferenceam
import Derived.Test.YtooogaogbffjfaaDoorMBookHeadsMatchReferencebh
import Derived.Test.YtooogaogbffjfaaDoorMBookHeadsMatchReferencear
import Derived.Test.YtooogaogbffjfaaDoorMBookHeadsMatchReferenceas
/-
  Texts of this claim, one behind the other: what they prove stands above each.
-/
section
set_option linter.unusedVariables false
set_option linter.unusedSimpArgs false
namespace Go.Proofs.YtooogaogbffjfaaDoor.RefSpec
set_option maxRecDepth 100000
open Go.RowKit Go.Proofs.YtooogaogbffjfaaDoorW.PrintWords Go.Proofs.YtooogaogbffjfaaDoorW.PrintLast Go.Proofs.YtooogaogbffjfaaDoorW.PrintMore Go.Proofs.YtooogaogbffjfaaDoor.Ext Go.Proofs.YtooogaogbffjfaaDoor.PB Go.Proofs.YtooogaogbffjfaaDoor.DigSpec
theorem w64 {x : Int} (h1 : -9223372036854775808 ≤ x) (h2 : x < 9223372036854775808) : wrap64 x = x := DigSpec.w64 h1 h2
abbrev I (l : List Nat) : List Int := l.map fun n : Nat => (n : Int)
theorem rd_I (l : List Nat) (j : Nat) (h : j < l.length) : rd (I l) (j : Int) = ((l.getD j 0 : Nat) : Int) := by
  unfold rd
  simp [List.getD_eq_getElem?_getD, h]
theorem I_snoc (l : List Nat) (x : Nat) : I l ++ [(x : Int)] = I (l ++ [x]) := by simp
theorem I_len (l : List Nat) : (I l).length = l.length := List.length_map _
theorem rotated_is (x n : Nat) (hx : x < 4294967296) (h0 : 0 < n) (hn : n < 32) (z : Int) (hz : z = (n : Int)) : aircheckref02_rotated.f (x : Int) z = some ((Sha.rot x n : Nat) : Int) := by
  subst hz
  have e1 : wrap64 (32 - (n : Int)) = ((32 - n : Nat) : Int) := by unfold wrap64; omega
  unfold aircheckref02_rotated.f
  rw [e1, if_pos (by omega), if_pos (by omega)]
  have s1 : shl .u32 (x : Int) ((32 - n : Nat) : Int) = (((x <<< (32 - n)) % 4294967296 : Nat) : Int) := by
    unfold shl
    rw [show min ((32 - n : Nat) : Int).toNat IntKind.u32.bits = 32 - n by simp [IntKind.bits], show ((2 : Int) ^ (32 - n)) = ((2 ^ (32 - n) : Nat) : Int) by simp, ← Int.natCast_mul, IntKind.wrap_u32, Nat.shiftLeft_eq]
    omega
  have s2 : shr .u32 (x : Int) (n : Int) = ((x >>> n : Nat) : Int) := by
    unfold shr
    rw [show min ((n : Nat) : Int).toNat IntKind.u32.bits = n by simp [IntKind.bits]; omega, show ((2 : Int) ^ n) = ((2 ^ n : Nat) : Int) by simp, Nat.shiftRight_eq_div_pow]
    rfl
  rw [s1, s2, u32_or_nat _ _ (Nat.lt_of_le_of_lt (Nat.shiftRight_le _ _) hx) (Nat.mod_lt _ (by decide))]
  rfl
theorem word_lt (a b c d : Nat) (ha : a < 256) (hb : b < 256) (hc : c < 256) (hd : d < 256) : word a b c d < 4294967296 := by
  unfold word
  have e (x n : Nat) (hx : x < 256) (hn : n ≤ 24) : x <<< n < 4294967296 := by
    rw [Nat.shiftLeft_eq]
    have : 2 ^ n ≤ 2 ^ 24 := Nat.pow_le_pow_right (by decide) hn
    calc x * 2 ^ n ≤ 255 * 2 ^ n := Nat.mul_le_mul_right _ (by omega)
      _ ≤ 255 * 2 ^ 24 := Nat.mul_le_mul_left _ this
      _ < 4294967296 := by decide
  exact or_lt (or_lt (or_lt (e a 24 ha (by omega)) (e b 16 hb (by omega))) (e c 8 hc (by omega))) (by omega)
theorem getD_lt {l : List Nat} {m : Nat} (h : ∀ x ∈ l, x < m) (hm : 0 < m) (j : Nat) : l.getD j 0 < m := by
  rw [List.getD_eq_getElem?_getD]
  cases e : l[j]? with
  | none => simpa using hm
  | some x => exact h x (List.mem_of_getElem? e)
theorem wordAt_lt {b : List Nat} (h : ∀ x ∈ b, x < 256) (j : Nat) : wordAt b j < 4294967296 :=
  word_lt _ _ _ _ (getD_lt h (by decide) _) (getD_lt h (by decide) _) (getD_lt h (by decide) _) (getD_lt h (by decide) _)
theorem grow_lt {b : List Nat} (h : ∀ x ∈ b, x < 256) (m : Nat) : ∀ x ∈ grow b m, x < 4294967296 := by
  induction m with
  | zero =>
    intro x hx
    obtain ⟨j, _, rfl⟩ := List.mem_map.1 hx
    exact wordAt_lt h j
  | succ m ih =>
    intro x hx
    rcases List.mem_append.1 hx with hx | hx
    · exact ih x hx
    · rw [List.mem_singleton.1 hx]; exact Nat.mod_lt _ (by decide)
theorem block_l0 (h b : List Nat) (hb : b.length = 64) (hlt : ∀ x ∈ b, x < 256) (k : Nat) : ∀ (d j : Nat), j + d = 16 →
    aircheckref02_block.l0 (k + d + 1) (I h) (I b) (I ((List.range j).map (wordAt b))) (j : Int) = aircheckref02_block.l1 k (I h) (I (grow b 0)) 16 := by
  intro d
  induction d with
  | zero =>
    intro j hj
    obtain rfl : j = 16 := by omega
    rw [aircheckref02_block.l0, if_neg (by omega)]
    rfl
  | succ d ih =>
    intro j hj
    have e0 : wrap64 (4 * (j : Int)) = ((4 * j : Nat) : Int) := by rw [w64 (by omega) (by omega)]; omega
    have e1 : wrap64 (((4 * j : Nat) : Int) + 1) = ((4 * j + 1 : Nat) : Int) := by rw [w64 (by omega) (by omega)]; omega
    have e2 : wrap64 (((4 * j : Nat) : Int) + 2) = ((4 * j + 2 : Nat) : Int) := by rw [w64 (by omega) (by omega)]; omega
    have e3 : wrap64 (((4 * j : Nat) : Int) + 3) = ((4 * j + 3 : Nat) : Int) := by rw [w64 (by omega) (by omega)]; omega
    have e4 : wrap64 ((j : Int) + 1) = ((j + 1 : Nat) : Int) := by rw [w64 (by omega) (by omega)]; omega
    have hw := word_is _ _ _ _ (getD_lt hlt (by decide) (4 * j)) (getD_lt hlt (by decide) (4 * j + 1)) (getD_lt hlt (by decide) (4 * j + 2)) (getD_lt hlt (by decide) (4 * j + 3))
    simp only [IntKind.wrap_u32] at hw
    rw [show k + (d + 1) + 1 = (k + d + 1) + 1 by omega, aircheckref02_block.l0, e0, e1, e2, e3, e4, I_len, hb, if_pos (by omega), if_pos (by omega), if_pos (by omega), if_pos (by omega), if_pos (by omega), if_pos (by omega), if_pos (by omega), if_pos (by omega), if_pos (by omega), if_pos (by simp; omega),
      rd_I b _ (by omega), rd_I b _ (by omega), rd_I b _ (by omega), rd_I b _ (by omega), hw, I_snoc]
    rw [show (List.range j).map (wordAt b) ++ [word (b.getD (4 * j) 0) (b.getD (4 * j + 1) 0) (b.getD (4 * j + 2) 0) (b.getD (4 * j + 3) 0)] = (List.range (j + 1)).map (wordAt b) by rw [List.range_succ, List.map_append]; rfl]
    exact ih (j + 1) (by omega)
theorem mix2 (x a b : Nat) : ShaSpec.mix x [a, b] = Sha.rot x a ^^^ Sha.rot x b := by simp only [ShaSpec.mix, List.foldl_cons, List.foldl_nil, Nat.zero_xor]
theorem mix3 (x a b c : Nat) : ShaSpec.mix x [a, b, c] = Sha.rot x a ^^^ Sha.rot x b ^^^ Sha.rot x c := by simp only [ShaSpec.mix, List.foldl_cons, List.foldl_nil, Nat.zero_xor]
theorem shr3 (x : Nat) : ((x : Int) / (8 : Int)) = ((x >>> 3 : Nat) : Int) := by rw [Nat.shiftRight_eq_div_pow]; rfl
theorem shr10 (x : Nat) : ((x : Int) / (1024 : Int)) = ((x >>> 10 : Nat) : Int) := by rw [Nat.shiftRight_eq_div_pow]; rfl
theorem shr_lt {x : Nat} (n : Nat) (h : x < 4294967296) : x >>> n < 4294967296 := Nat.lt_of_le_of_lt (Nat.shiftRight_le _ _) h
theorem constants_is : aircheckref02_constants.f = some (I Sha.kk) := by decide +kernel
theorem block_l1 (h b : List Nat) (hh : h.length = 8) (hlt : ∀ x ∈ b, x < 256) (k : Nat) : ∀ (d m : Nat), m + d = 48 →
    aircheckref02_block.l1 (k + d + 1) (I h) (I (grow b m)) ((16 + m : Nat) : Int) = aircheckref02_block.l2 k (I h) (I (grow b 48)) (I Sha.kk) (I h) 0 := by
  intro d
  induction d with
  | zero =>
    intro m hm
    obtain rfl : m = 48 := by omega
    rw [aircheckref02_block.l1, if_neg (by omega), constants_is, Option.bind_some, if_pos (by simp [hh]), List.nil_append]
  | succ d ih =>
    intro m hm
    have hg := grow_len b m
    have hl := grow_lt hlt m
    have e15 : wrap64 (((16 + m : Nat) : Int) - 15) = ((m + 1 : Nat) : Int) := by rw [w64 (by omega) (by omega)]; omega
    have e2 : wrap64 (((16 + m : Nat) : Int) - 2) = ((m + 14 : Nat) : Int) := by rw [w64 (by omega) (by omega)]; omega
    have e16 : wrap64 (((16 + m : Nat) : Int) - 16) = ((m : Nat) : Int) := by rw [w64 (by omega) (by omega)]; omega
    have e7 : wrap64 (((16 + m : Nat) : Int) - 7) = ((m + 9 : Nat) : Int) := by rw [w64 (by omega) (by omega)]; omega
    have e1 : wrap64 (((16 + m : Nat) : Int) + 1) = ((16 + (m + 1) : Nat) : Int) := by rw [w64 (by omega) (by omega)]; omega
    have hp := getD_lt hl (by decide) (m + 1)
    have hq := getD_lt hl (by decide) (m + 14)
    rw [show k + (d + 1) + 1 = (k + d + 1) + 1 by omega, aircheckref02_block.l1, e15, e2, e16, e7, e1, I_len, hg, if_pos (by omega), if_pos (by omega), if_pos (by omega),
      rd_I _ (m + 1) (by omega), rd_I _ (m + 14) (by omega), rd_I _ m (by omega), rd_I _ (m + 9) (by omega),
      rotated_is _ 7 hp (by decide) (by decide) 7 rfl, Option.bind_some, rotated_is _ 18 hp (by decide) (by decide) 18 rfl, Option.bind_some, if_pos (by omega), if_pos (by omega),
      rotated_is _ 17 hq (by decide) (by decide) 17 rfl, Option.bind_some, rotated_is _ 19 hq (by decide) (by decide) 19 rfl, Option.bind_some, if_pos (by omega), if_pos (by omega), if_pos (by omega), if_pos (by omega), if_pos (by omega),
      u32_xor_nat _ _ (ShaSpec.rot_lt _ _ hp) (ShaSpec.rot_lt _ _ hp), u32_xor_nat _ _ (ShaSpec.rot_lt _ _ hq) (ShaSpec.rot_lt _ _ hq), shr3, shr10,
      u32_xor_nat _ _ (ShaSpec.xor_lt (ShaSpec.rot_lt _ _ hp) (ShaSpec.rot_lt _ _ hp)) (shr_lt 3 hp), u32_xor_nat _ _ (ShaSpec.xor_lt (ShaSpec.rot_lt _ _ hq) (ShaSpec.rot_lt _ _ hq)) (shr_lt 10 hq)]
    have en : next (grow b m) = ((grow b m).getD m 0 + (Sha.rot ((grow b m).getD (m + 1) 0) 7 ^^^ Sha.rot ((grow b m).getD (m + 1) 0) 18 ^^^ (grow b m).getD (m + 1) 0 >>> 3) + (grow b m).getD (m + 9) 0 + (Sha.rot ((grow b m).getD (m + 14) 0) 17 ^^^ Sha.rot ((grow b m).getD (m + 14) 0) 19 ^^^ (grow b m).getD (m + 14) 0 >>> 10)) % 4294967296 := by
      unfold next
      rw [hg, mix2, mix2, show 16 + m - 16 = m by omega, show 16 + m - 15 = m + 1 by omega, show 16 + m - 7 = m + 9 by omega, show 16 + m - 2 = m + 14 by omega]
    have ei : (((((((grow b m).getD m 0 : Nat) : Int) + ((Sha.rot ((grow b m).getD (m + 1) 0) 7 ^^^ Sha.rot ((grow b m).getD (m + 1) 0) 18 ^^^ (grow b m).getD (m + 1) 0 >>> 3 : Nat) : Int)) % (4294967296 : Int) + (((grow b m).getD (m + 9) 0 : Nat) : Int)) % (4294967296 : Int) + ((Sha.rot ((grow b m).getD (m + 14) 0) 17 ^^^ Sha.rot ((grow b m).getD (m + 14) 0) 19 ^^^ (grow b m).getD (m + 14) 0 >>> 10 : Nat) : Int)) % (4294967296 : Int)) = ((next (grow b m) : Nat) : Int) := by
      rw [en]
      generalize Sha.rot ((grow b m).getD (m + 1) 0) 7 ^^^ Sha.rot ((grow b m).getD (m + 1) 0) 18 ^^^ (grow b m).getD (m + 1) 0 >>> 3 = A
      generalize Sha.rot ((grow b m).getD (m + 14) 0) 17 ^^^ Sha.rot ((grow b m).getD (m + 14) 0) 19 ^^^ (grow b m).getD (m + 14) 0 >>> 10 = B
      omega
    rw [ei, I_snoc]
    exact ih (m + 1) (by omega)
theorem lst_len (s : Sha.St) : (lst s).length = 8 := rfl
theorem block_l2 (h W : List Nat) (s : Sha.St) (hs : Bd s) (hW : W.length = 64) (k : Nat) : ∀ (d i : Nat), i + d = 64 →
    aircheckref02_block.l2 (k + d + 1) (I h) (I W) (I Sha.kk) (I (lst (upto i W s))) (i : Int) = aircheckref02_block.l3 k (I h) (I (lst (upto 64 W s))) [] 0 := by
  intro d
  induction d with
  | zero =>
    intro i hi
    obtain rfl : i = 64 := by omega
    rw [aircheckref02_block.l2, if_neg (by omega)]
  | succ d ih =>
    intro i hi
    have hbd := upto_bd W s hs hW i (by omega)
    have hsucc := upto_succ i W s (by omega) hW
    have e1 : wrap64 ((i : Int) + 1) = ((i + 1 : Nat) : Int) := by rw [w64 (by omega) (by omega)]; omega
    have hk := rd_I Sha.kk i (by rw [kk_len]; omega)
    have hw := rd_I W i (by omega)
    generalize upto i W s = v at *
    generalize Sha.kk.getD i 0 = kx at *
    generalize W.getD i 0 = wx at *
    have r0 : rd (I (lst v)) 0 = (v.a : Int) := rfl
    have r1 : rd (I (lst v)) 1 = (v.b : Int) := rfl
    have r2 : rd (I (lst v)) 2 = (v.c : Int) := rfl
    have r3 : rd (I (lst v)) 3 = (v.d : Int) := rfl
    have r4 : rd (I (lst v)) 4 = (v.e : Int) := rfl
    have r5 : rd (I (lst v)) 5 = (v.f : Int) := rfl
    have r6 : rd (I (lst v)) 6 = (v.g : Int) := rfl
    have r7 : rd (I (lst v)) 7 = (v.h : Int) := rfl
    have ht := t_is v kx wx hbd
    have hu := u_is v hbd
    have b1 := hbd.1
    have b5 := hbd.2.2.2.2.1
    rw [mix3] at ht hu
    simp only [IntKind.wrap_u32] at ht hu
    rw [show k + (d + 1) + 1 = (k + d + 1) + 1 by omega, aircheckref02_block.l2, e1, I_len, lst_len, I_len, kk_len, I_len, hW, hk, hw, r0, r1, r2, r3, r4, r5, r6, r7, if_pos (by omega), if_pos (by omega), if_pos (by omega), if_pos (by omega),
      rotated_is _ 6 b5 (by decide) (by decide) 6 rfl, Option.bind_some, rotated_is _ 11 b5 (by decide) (by decide) 11 rfl, Option.bind_some, rotated_is _ 25 b5 (by decide) (by decide) 25 rfl, Option.bind_some,
      if_pos (by omega), if_pos (by omega), if_pos (by omega), if_pos (by omega), if_pos (by omega),
      rotated_is _ 2 b1 (by decide) (by decide) 2 rfl, Option.bind_some, rotated_is _ 13 b1 (by decide) (by decide) 13 rfl, Option.bind_some, rotated_is _ 22 b1 (by decide) (by decide) 22 rfl, Option.bind_some,
      if_pos (by omega), if_pos (by omega), if_pos (by omega),
      u32_xor_nat _ _ (ShaSpec.rot_lt _ _ b5) (ShaSpec.rot_lt _ _ b5), u32_xor_nat _ _ (ShaSpec.xor_lt (ShaSpec.rot_lt _ _ b5) (ShaSpec.rot_lt _ _ b5)) (ShaSpec.rot_lt _ _ b5),
      u32_xor_nat _ _ (ShaSpec.rot_lt _ _ b1) (ShaSpec.rot_lt _ _ b1), u32_xor_nat _ _ (ShaSpec.xor_lt (ShaSpec.rot_lt _ _ b1) (ShaSpec.rot_lt _ _ b1)) (ShaSpec.rot_lt _ _ b1), ht, hu]
    have he : ([(((tOf v kx wx : Nat) : Int) + ((uOf v : Nat) : Int)) % (4294967296 : Int), (v.a : Int), (v.b : Int), (v.c : Int), ((v.d : Int) + ((tOf v kx wx : Nat) : Int)) % (4294967296 : Int), (v.e : Int), (v.f : Int), (v.g : Int)] : List Int) = I (lst (Sha.rnd v kx wx)) := by
      rw [rnd_is]
      simp
    rw [he, ← hsucc]
    exact ih (i + 1) (by omega)
theorem block_l3 (h v : List Nat) (hh : h.length = 8) (hv : v.length = 8) (k : Nat) : ∀ (d i : Nat), i + d = 8 →
    aircheckref02_block.l3 (k + d + 1) (I h) (I v) (I ((List.range i).map fun j => (h.getD j 0 + v.getD j 0) % 4294967296)) (i : Int) = some (I ((List.range 8).map fun j => (h.getD j 0 + v.getD j 0) % 4294967296)) := by
  intro d
  induction d with
  | zero =>
    intro i hi
    obtain rfl : i = 8 := by omega
    rw [aircheckref02_block.l3, if_neg (by omega)]
  | succ d ih =>
    intro i hi
    have e1 : wrap64 ((i : Int) + 1) = ((i + 1 : Nat) : Int) := by rw [w64 (by omega) (by omega)]; omega
    rw [show k + (d + 1) + 1 = (k + d + 1) + 1 by omega, aircheckref02_block.l3, e1, I_len, hh, I_len, hv, if_pos (by omega), if_pos (by omega), if_pos (by omega), if_pos (by omega), if_pos (by simp; omega), rd_I h i (by omega), rd_I v i (by omega)]
    rw [show (((h.getD i 0 : Nat) : Int) + ((v.getD i 0 : Nat) : Int)) % (4294967296 : Int) = (((h.getD i 0 + v.getD i 0) % 4294967296 : Nat) : Int) by omega, I_snoc]
    have := ih (i + 1) (by omega)
    rw [List.range_succ, List.map_append] at this
    exact this
theorem block_is (s : Sha.St) (hs : Bd s) (b : List Nat) (hb : b.length = 64) (hlt : ∀ x ∈ b, x < 256) (k : Nat) (hk : 140 ≤ k) : aircheckref02_block.f k (I (lst s)) (I b) = some (I (lst (Sha.block s b))) := by
  obtain ⟨q, rfl⟩ : ∃ q, k = ((((q + 8 + 1) + 64 + 1) + 48 + 1) + 16 + 1) := ⟨k - 140, by omega⟩
  have h0 := block_l0 (lst s) b hb hlt (((q + 8 + 1) + 64 + 1) + 48 + 1) 16 0 rfl
  have h1 := block_l1 (lst s) b rfl hlt ((q + 8 + 1) + 64 + 1) 48 0 rfl
  have h2 := block_l2 (lst s) (grow b 48) s hs (by rw [grow_len]) (q + 8 + 1) 64 0 rfl
  have h3 := block_l3 (lst s) (lst (upto 64 (grow b 48) s)) rfl rfl q 8 0 rfl
  unfold aircheckref02_block.f
  refine h0.trans (h1.trans (h2.trans (h3.trans ?_)))
  rw [upto_all _ _ (by rw [grow_len])]
  have ha : grow b 48 = (Sha.more 48 (Sha.words 16 b).reverse).reverse := by
    rw [← arr_all b hb]; simp [arr]
  rw [ha]
  rfl
theorem bt_I (s : ByteArray) (j : Nat) (h : j < s.size) : bt s (j : Int) = (((nat s).getD j 0 : Nat) : Int) := by
  have e : (nat s)[j]? = some (s.data[j]'h).toNat := by
    unfold nat
    rw [List.getElem?_map, Array.getElem?_toList, Array.getElem?_eq_getElem h]
    rfl
  rw [List.getD_eq_getElem?_getD, e]
  unfold bt
  simp only [Int.toNat_natCast, dif_pos h]
  rfl
theorem ext_l0 (s : ByteArray) (hs : s.size ≤ 1000000) (k : Nat) : ∀ (d j : Nat), j + d = s.size → aircheckref02_extended.l0 (k + d + 1) s (I ((nat s).take j)) (j : Int) = aircheckref02_extended.l1 k s (I (nat s ++ [128])) := by
  intro d
  induction d with
  | zero =>
    intro j hj
    rw [aircheckref02_extended.l0, if_neg (by omega), List.take_of_length_le (by rw [nat_length]; omega), if_pos (by rw [I_len, nat_length]; omega), show (128 : Int) = ((128 : Nat) : Int) from rfl, I_snoc]
  | succ d ih =>
    intro j hj
    rw [show k + (d + 1) + 1 = (k + d + 1) + 1 by omega, aircheckref02_extended.l0, if_pos (by omega), if_pos (by omega), if_pos (by rw [I_len, List.length_take, nat_length]; omega), bt_I s j (by omega), I_snoc, w64 (by omega) (by omega), show (j : Int) + 1 = ((j + 1 : Nat) : Int) by omega, ← take_snoc' (by rw [nat_length]; omega)]
    exact ih (j + 1) (by omega)
theorem ext_l1 (s : ByteArray) (hs : s.size ≤ 1000000) (k : Nat) : ∀ (d i : Nat), i + d = zeros s.size → aircheckref02_extended.l1 (k + d + 1) s (I (nat s ++ [128] ++ List.replicate i 0)) = aircheckref02_extended.l2 k s (I (nat s ++ [128] ++ List.replicate (zeros s.size) 0)) 7 := by
  intro d
  induction d with
  | zero =>
    intro i hi
    obtain rfl : i = zeros s.size := by omega
    have hl : ((I (nat s ++ [128] ++ List.replicate (zeros s.size) 0)).length : Int) % 64 = 56 := by
      rw [I_len, List.length_append, List.length_append, nat_length, List.length_replicate]
      unfold zeros
      simp only [List.length_singleton]
      omega
    rw [aircheckref02_extended.l1, if_pos hl]
  | succ d ih =>
    intro i hi
    have hl : ¬ ((I (nat s ++ [128] ++ List.replicate i 0)).length : Int) % 64 = 56 := by
      rw [I_len, List.length_append, List.length_append, nat_length, List.length_replicate]
      unfold zeros at hi
      simp only [List.length_singleton]
      omega
    have hz : zeros s.size < 64 := by unfold zeros; omega
    rw [show k + (d + 1) + 1 = (k + d + 1) + 1 by omega, aircheckref02_extended.l1, if_neg hl, if_pos (by rw [I_len, List.length_append, List.length_append, nat_length, List.length_replicate]; simp only [List.length_singleton]; omega), show (0 : Int) = ((0 : Nat) : Int) from rfl, I_snoc,
      show nat s ++ [128] ++ List.replicate i 0 ++ [0] = nat s ++ [128] ++ List.replicate (i + 1) 0 by rw [List.append_assoc, List.replicate_succ']]
    exact ih (i + 1) (by omega)
theorem shr64 (n i : Nat) (h : i ≤ 7) (hn : n ≤ 1000000) : (shr .i64 (wrap64 (8 * (n : Int))) (wrap64 (8 * (i : Int)))) % (256 : Int) = (((8 * n) / 2 ^ (8 * i) % 256 : Nat) : Int) := by
  rw [w64 (by omega) (by omega), w64 (by omega) (by omega)]
  unfold shr
  rw [show min ((8 * (i : Int))).toNat IntKind.i64.bits = 8 * i by rw [show (8 * (i : Int)).toNat = 8 * i by omega]; simp [IntKind.bits]; omega]
  simp
theorem ext_l2 (s : ByteArray) (hs : s.size ≤ 1000000) (L : List Nat) (hL : L.length ≤ 2000000) (k : Nat) : aircheckref02_extended.l2 (k + 9) s (I L) 7 = some (I (L ++ tail8 s.size)) := by
  have step (k i : Nat) (M : List Nat) (hi : i ≤ 7) (hM : M.length ≤ 3000000) : aircheckref02_extended.l2 (k + 1) s (I M) (i : Int) = aircheckref02_extended.l2 k s (I (M ++ [(8 * s.size) / 2 ^ (8 * i) % 256])) ((i : Int) - 1) := by
    rw [aircheckref02_extended.l2, if_pos (by omega), if_pos (by rw [w64 (by omega) (by omega)]; omega), if_pos (by rw [I_len]; omega), shr64 _ _ hi hs, I_snoc, w64 (x := (i : Int) - 1) (by omega) (by omega)]
  have h7 := step (k + 8) 7 L (by omega) (by omega)
  have h6 := step (k + 7) 6 (L ++ [(8 * s.size) / 2 ^ (8 * 7) % 256]) (by omega) (by simp; omega)
  have h5 := step (k + 6) 5 (L ++ [(8 * s.size) / 2 ^ (8 * 7) % 256] ++ [(8 * s.size) / 2 ^ (8 * 6) % 256]) (by omega) (by simp; omega)
  have h4 := step (k + 5) 4 (L ++ [(8 * s.size) / 2 ^ (8 * 7) % 256] ++ [(8 * s.size) / 2 ^ (8 * 6) % 256] ++ [(8 * s.size) / 2 ^ (8 * 5) % 256]) (by omega) (by simp; omega)
  have h3 := step (k + 4) 3 (L ++ [(8 * s.size) / 2 ^ (8 * 7) % 256] ++ [(8 * s.size) / 2 ^ (8 * 6) % 256] ++ [(8 * s.size) / 2 ^ (8 * 5) % 256] ++ [(8 * s.size) / 2 ^ (8 * 4) % 256]) (by omega) (by simp; omega)
  have h2 := step (k + 3) 2 (L ++ [(8 * s.size) / 2 ^ (8 * 7) % 256] ++ [(8 * s.size) / 2 ^ (8 * 6) % 256] ++ [(8 * s.size) / 2 ^ (8 * 5) % 256] ++ [(8 * s.size) / 2 ^ (8 * 4) % 256] ++ [(8 * s.size) / 2 ^ (8 * 3) % 256]) (by omega) (by simp; omega)
  have h1 := step (k + 2) 1 (L ++ [(8 * s.size) / 2 ^ (8 * 7) % 256] ++ [(8 * s.size) / 2 ^ (8 * 6) % 256] ++ [(8 * s.size) / 2 ^ (8 * 5) % 256] ++ [(8 * s.size) / 2 ^ (8 * 4) % 256] ++ [(8 * s.size) / 2 ^ (8 * 3) % 256] ++ [(8 * s.size) / 2 ^ (8 * 2) % 256]) (by omega) (by simp; omega)
  have h0 := step (k + 1) 0 (L ++ [(8 * s.size) / 2 ^ (8 * 7) % 256] ++ [(8 * s.size) / 2 ^ (8 * 6) % 256] ++ [(8 * s.size) / 2 ^ (8 * 5) % 256] ++ [(8 * s.size) / 2 ^ (8 * 4) % 256] ++ [(8 * s.size) / 2 ^ (8 * 3) % 256] ++ [(8 * s.size) / 2 ^ (8 * 2) % 256] ++ [(8 * s.size) / 2 ^ (8 * 1) % 256]) (by omega) (by simp; omega)
  refine h7.trans (h6.trans (h5.trans (h4.trans (h3.trans (h2.trans (h1.trans (h0.trans ?_)))))))
  rw [show ((0 : Nat) : Int) - 1 = -1 from rfl, aircheckref02_extended.l2, if_neg (by omega)]
  simp [tail8]
theorem extended_is (s : ByteArray) (hs : s.size ≤ 1000000) (k : Nat) (hk : s.size + 100 ≤ k) : aircheckref02_extended.f k s = some (I (nat s ++ Sha.pad s.size)) := by
  have hz : zeros s.size < 64 := by unfold zeros; omega
  obtain ⟨q, rfl⟩ : ∃ q, k = ((q + 9) + zeros s.size + 1) + s.size + 1 := ⟨k - (9 + zeros s.size + 1 + s.size + 1), by omega⟩
  have h0 := ext_l0 s hs ((q + 9) + zeros s.size + 1) s.size 0 (by omega)
  have h1 := ext_l1 s hs (q + 9) (zeros s.size) 0 (by omega)
  have h2 := ext_l2 s hs (nat s ++ [128] ++ List.replicate (zeros s.size) 0) (by rw [List.length_append, List.length_append, nat_length, List.length_replicate, List.length_singleton]; omega) q
  rw [List.replicate_zero, List.append_nil] at h1
  unfold aircheckref02_extended.f
  refine h0.trans (h1.trans (h2.trans ?_))
  rw [pad_is, List.append_assoc, List.append_assoc]
  rfl
theorem sum_l0 (p : List Nat) (n : Nat) (hp : p.length = 64 * n) (hn : n ≤ 1000000) (hlt : ∀ x ∈ p, x < 256) (k : Nat) (hk : 140 ≤ k) : ∀ (d i : Nat) (s : Sha.St), Bd s → i + d = n →
    aircheckref02_Sum.l0 (k + d + 1) (I (lst s)) (I p) ((64 * i : Nat) : Int) = aircheckref02_Sum.l1 k (I (lst (Sha.blocks d s (p.drop (64 * i))))) [] 0 := by
  intro d
  induction d with
  | zero =>
    intro i s hs hi
    rw [aircheckref02_Sum.l0, I_len, hp, if_neg (by omega)]
    rfl
  | succ d ih =>
    intro i s hs hi
    have e1 : wrap64 (((64 * i : Nat) : Int) + 64) = ((64 * (i + 1) : Nat) : Int) := by rw [w64 (by omega) (by omega)]; omega
    have e2 : ((I p).take (64 * (i + 1))).drop (64 * i) = I ((p.drop (64 * i)).take 64) := by
      rw [← List.map_take, ← List.map_drop, List.drop_take, show 64 * (i + 1) - 64 * i = 64 by omega]
    have hb : ((p.drop (64 * i)).take 64).length = 64 := by rw [List.length_take, List.length_drop]; omega
    rw [show k + (d + 1) + 1 = (k + d + 1) + 1 by omega, aircheckref02_Sum.l0, e1, I_len, hp, if_pos (by omega), if_pos (by omega), if_pos (by omega), if_pos (by omega), Int.toNat_natCast, Int.toNat_natCast, e2,
      block_is s hs _ hb (fun x hx => hlt x (List.mem_of_mem_drop (List.mem_of_mem_take hx))) (k + d + 1) (by omega), Option.bind_some, ih (i + 1) _ (block_bd _ _) (by omega)]
    rw [show p.drop (64 * (i + 1)) = (p.drop (64 * i)).drop 64 by rw [List.drop_drop]; rfl]
    rfl
def beOf (x : Nat) : List Nat := [x / 16777216 % 256, x / 65536 % 256, x / 256 % 256, x % 256]
theorem be_is (x : Nat) (hx : x < 4294967296) : Sha.be x = beOf x := by
  unfold Sha.be beOf
  rw [Nat.shiftRight_eq_div_pow, Nat.shiftRight_eq_div_pow, Nat.shiftRight_eq_div_pow]
  congr 1
  omega
theorem sum_l1 (h : List Nat) (hh : h.length = 8) (k : Nat) : ∀ (d i : Nat), i + d = 8 →
    aircheckref02_Sum.l1 (k + d + 1) (I h) (I ((h.take i).flatMap beOf)) (i : Int) = some (str (h.flatMap beOf)) := by
  intro d
  induction d with
  | zero =>
    intro i hi
    rw [aircheckref02_Sum.l1, if_neg (by omega), List.take_of_length_le (by omega)]
    congr 1
    unfold strOfNums str
    simp
  | succ d ih =>
    intro i hi
    have hb : ∀ l : List Nat, (l.flatMap beOf).length = 4 * l.length := by
      intro l
      induction l with
      | nil => rfl
      | cons a l ih => rw [List.flatMap_cons, List.length_append, ih]; simp [beOf]; omega
    rw [show k + (d + 1) + 1 = (k + d + 1) + 1 by omega, aircheckref02_Sum.l1, if_pos (by omega), if_pos (by omega), I_len, hh, if_pos (by omega), Option.bind_some, if_pos (by rw [I_len, hb, List.length_take]; simp; omega), rd_I h i (by omega), w64 (by omega) (by omega), show (i : Int) + 1 = ((i + 1 : Nat) : Int) by omega]
    have he : I ((h.take i).flatMap beOf) ++ [((h.getD i 0 : Nat) : Int) / 16777216 % 256, ((h.getD i 0 : Nat) : Int) / 65536 % 256, ((h.getD i 0 : Nat) : Int) / 256 % 256, ((h.getD i 0 : Nat) : Int) % 256] = I ((h.take (i + 1)).flatMap beOf) := by
      rw [take_snoc' (by omega), List.flatMap_append]
      simp [beOf]
    rw [he]
    exact ih (i + 1) (by omega)
theorem refsum_is (s : ByteArray) (hs : s.size ≤ 100000) (k : Nat) (hk : 2 * s.size + 400 ≤ k) : aircheckref02_Sum.f k s = some (Ext.hash s) := by
  have hz : zeros s.size < 64 := by unfold zeros; omega
  obtain ⟨p, hp⟩ : ∃ p, p = nat s ++ Sha.pad s.size := ⟨_, rfl⟩
  have hlen : p.length = s.size + (1 + (zeros s.size + 8)) := by
    rw [hp, pad_is, List.length_append, nat_length, List.length_cons, List.length_append, List.length_replicate]
    simp [tail8]; omega
  have hdiv : ∃ n, p.length = 64 * n := ⟨p.length / 64, by rw [hlen]; unfold zeros; omega⟩
  obtain ⟨n, hn⟩ := hdiv
  have hlt : ∀ x ∈ p, x < 256 := by
    intro x hx
    rw [hp] at hx
    rcases List.mem_append.1 hx with hx | hx
    · exact nat_lt s x hx
    · exact pad_lt _ x hx
  have hnle : n ≤ s.size + 2 := by omega
  obtain ⟨q, rfl⟩ : ∃ q, k = (q + 140) + n + 1 := ⟨k - (140 + n + 1), by omega⟩
  unfold aircheckref02_Sum.f
  rw [extended_is s (by omega) _ (by omega), Option.bind_some, ← hp]
  have h0 := sum_l0 p n hn (by omega) hlt (q + 140) (by omega) n 0 Sha.init init_bd (by omega)
  have h1 := sum_l1 (lst (Sha.blocks n Sha.init (p.drop (64 * 0)))) rfl (q + 131) 8 0 rfl
  refine h0.trans (h1.trans ?_)
  unfold Ext.hash Sha.sha
  dsimp only
  rw [nat_length, ← hp, hn, Nat.mul_div_cancel_left _ (by omega : 0 < 64)]
  rw [Nat.mul_zero, List.drop_zero]
  obtain ⟨b1, b2, b3, b4, b5, b6, b7, b8⟩ := blocks_bd n p
  congr 2
  unfold Sha.out lst
  rw [be_is _ b1, be_is _ b2, be_is _ b3, be_is _ b4, be_is _ b5, be_is _ b6, be_is _ b7, be_is _ b8]
  simp
end Go.Proofs.YtooogaogbffjfaaDoor.RefSpec
end
section
set_option linter.unusedVariables false
set_option linter.unusedSimpArgs false
namespace Go.Proofs.YtooogaogbffjfaaDoor.Ext
set_option maxRecDepth 100000
open Go.RowKit Go.Shelf Go.Proofs.YtooogaogbffjfaaDoorW.PrintWords Go.Proofs.YtooogaogbffjfaaDoorW.PrintLast Go.Proofs.YtooogaogbffjfaaDoorW.PrintMore Go.Proofs.YtooogaogbffjfaaDoor.Bk Go.Proofs.YtooogaogbffjfaaDoor.PB Leb
attribute [local go_sem] Oper.semAt_some
theorem str_nums (l : List Nat) : strOfNums (l.map fun n : Nat => (n : Int)) = str l := by
  unfold strOfNums str
  rw [List.map_map]
  rfl
theorem tdiv_nat (z d : Nat) : Int.tdiv (z : Int) (d : Int) = ((z / d : Nat) : Int) := rfl
theorem tmod_nat (z d : Nat) : Int.tmod (z : Int) (d : Int) = ((z % d : Nat) : Int) := rfl
theorem ref_put_loop (k : Nat) : ∀ (z : Nat) (out : List Nat), (leb z).length ≤ k → z < 9223372036854775808 → out.length + k < 1000000 →
    aircheckref01_PutInt.l0 k (z : Int) (out.map fun n : Nat => (n : Int)) = some (str (out ++ leb z), 0) := by
  induction k with
  | zero => intro z out h; have := List.length_pos_iff.2 (leb_ne z); omega
  | succ k ih =>
    intro z out h hz ho
    simp only [aircheckref01_PutInt.l0, List.length_map]
    by_cases h1 : z < 128
    · have hb : ((z : Int)) % 256 = ((z : Nat) : Int) := by omega
      rw [if_neg (by omega), if_pos (by omega), hb, leb_small h1, ← str_nums]
      simp
    · have e1 : IntKind.u64.wrap (Int.tdiv (z : Int) 128) = ((z / 128 : Nat) : Int) := by
        rw [show (128 : Int) = ((128 : Nat) : Int) from rfl, tdiv_nat, IntKind.wrap_u64]; omega
      have e2 : (IntKind.u64.wrap ((Int.tmod (z : Int) 128) + 128)) % 256 = ((z % 128 + 128 : Nat) : Int) := by
        rw [show (Int.tmod (z : Int) 128) = ((z % 128 : Nat) : Int) from tmod_nat z 128, IntKind.wrap_u64]; omega
      rw [if_pos (by omega), if_pos (by omega), e1, e2]
      have := ih (z / 128) (out ++ [z % 128 + 128]) (by rw [leb_big h1] at h; simpa using h) (by omega) (by simp; omega)
      rw [List.map_append, List.map_singleton] at this
      rw [this, leb_big h1]
      simp
theorem ref_zig {a : Int} (h0 : -4611686018427387903 ≤ a) (h1 : a ≤ 4611686018427387903) : aircheckref01_zigzag.f a = some ((zig a : Nat) : Int) := by
  unfold aircheckref01_zigzag.f zig
  by_cases h : a < 0
  · rw [if_pos h, if_pos h, DigSpec.w64 (x := -a) (by omega) (by omega)]
    simp only [IntKind.wrap_u64]
    congr 1; omega
  · rw [if_neg h, if_neg h]
    simp only [IntKind.wrap_u64]
    congr 1; omega
theorem ref_put (a : Int) (k : Nat) (hk : 12 ≤ k) (hk2 : k < 100000) : aircheckref01_PutInt.f k a = wire_PutInt.f a := by
  obtain ⟨k, rfl⟩ : ∃ m, k = m + 1 := ⟨k - 1, by omega⟩
  unfold aircheckref01_PutInt.f wire_PutInt.f
  by_cases h0 : a < -4611686018427387903
  · rw [if_pos h0, if_pos h0, aircheckref01_PutInt.j0, if_pos rfl]
  · rw [if_neg h0, if_neg h0, aircheckref01_PutInt.j0]
    by_cases h1 : a > 4611686018427387903
    · rw [if_pos h1, if_pos (by simpa using h1)]
    · rw [if_neg h1, if_neg (by simpa using h1), ref_zig (by omega) (by omega), Option.bind_some]
      have hz : zig a < 9223372036854775808 := by unfold zig; split <;> omega
      have := ref_put_loop k (zig a) [] (by have := leb_length 8 (zig a) (by omega); omega) (by omega) (by simp; omega)
      exact this
theorem rput_yes (n : Int) (h : encOk n = true) (w : World) : Calls Tryd.prog 28 #[.int .i64 n] w fun e w' => e = .returned (.tuple #[.string (str (Leb.enc n)), .int .i64 0]) ∧ Below w.heap.size w w' :=
  aircheckref01_PutInt.calls 20 n _ _ w (by have := of_decide_eq_true h; rw [ref_put n 20 (by omega) (by omega)]; unfold wire_PutInt.f; rw [if_neg (by omega), if_neg (by omega)])
theorem rput_no (n : Int) (h : encOk n = false) (w : World) : Calls Tryd.prog 28 #[.int .i64 n] w fun e w' => e = .returned (.tuple #[.string ⟨#[]⟩, .int .i64 10]) ∧ Below w.heap.size w w' :=
  aircheckref01_PutInt.calls 20 n _ _ w (by
    have := of_decide_eq_false h
    rw [ref_put n 20 (by omega) (by omega)]
    unfold wire_PutInt.f
    by_cases h1 : n < -4611686018427387903
    · rw [if_pos h1]
    · rw [if_neg h1, if_pos (by omega)])
theorem str_app (a b : List Nat) : str a ++ str b = str (a ++ b) := by
  have h : ∀ x y : ByteArray, x.data.toList = y.data.toList → x = y := fun x y h => by
    cases x; cases y; congr 1; exact Array.toList_inj.1 h
  refine h _ _ ?_
  show (str a ++ str b).data.toList = _
  rw [show (str a ++ str b).data = (str a).data ++ (str b).data from ByteArray.data_append, Array.toList_append]
  show (a.map UInt8.ofNat).toArray.toList ++ (b.map UInt8.ofNat).toArray.toList = ((a ++ b).map UInt8.ofNat).toArray.toList
  simp
set_option maxHeartbeats 2000000 in
theorem rencode_walk (p : S27) (w : World) :
    Calls Tryd.prog 7 #[.agg #[.int .i64 p.f0, .int .i64 p.f1, .int .i64 p.f2, .int .i64 p.f3, .int .i64 p.f4, .int .i64 p.f5, .int .i64 p.f6]] w fun e w' => e = .returned (.tuple #[.string (encF p).1, .int .i64 (encF p).2]) ∧ Below w.heap.size w w' := by
  go_enter Tryd.func7, Tryd.ntmps7
  go_wp2
  have hbw : Below w.heap.size w ((w.alloc (.cells #[.int .i64 p.f0, .int .i64 p.f1, .int .i64 p.f2, .int .i64 p.f3, .int .i64 p.f4, .int .i64 p.f5, .int .i64 p.f6] 27)).alloc (.cells #[.int .i64 p.f0, .int .i64 p.f1, .int .i64 p.f2, .int .i64 p.f3, .int .i64 p.f4, .int .i64 p.f5, .int .i64 p.f6] 3)) := ((Below.refl _ _).alloc (Nat.le_refl _) _).alloc (by simp) _
  have hlt : Blk ((w.alloc (.cells #[.int .i64 p.f0, .int .i64 p.f1, .int .i64 p.f2, .int .i64 p.f3, .int .i64 p.f4, .int .i64 p.f5, .int .i64 p.f6] 27)).alloc (.cells #[.int .i64 p.f0, .int .i64 p.f1, .int .i64 p.f2, .int .i64 p.f3, .int .i64 p.f4, .int .i64 p.f5, .int .i64 p.f6] 3)) (w.heap.size + 1) 3 ((fldL p).map (Value.int .i64)) := by
    have := Blk.new (w.alloc (.cells #[.int .i64 p.f0, .int .i64 p.f1, .int .i64 p.f2, .int .i64 p.f3, .int .i64 p.f4, .int .i64 p.f5, .int .i64 p.f6] 27)) 3 ((fldL p).map (Value.int .i64))
    have e : w.heap.size + 1 = (w.alloc (.cells #[.int .i64 p.f0, .int .i64 p.f1, .int .i64 p.f2, .int .i64 p.f3, .int .i64 p.f4, .int .i64 p.f5, .int .i64 p.f6] 27)).heap.size := by simp
    rw [e]
    exact this
  generalize ((w.alloc (.cells #[.int .i64 p.f0, .int .i64 p.f1, .int .i64 p.f2, .int .i64 p.f3, .int .i64 p.f4, .int .i64 p.f5, .int .i64 p.f6] 27)).alloc (.cells #[.int .i64 p.f0, .int .i64 p.f1, .int .i64 p.f2, .int .i64 p.f3, .int .i64 p.f4, .int .i64 p.f5, .int .i64 p.f6] 3)) = ws at *
  go_loopw [4, 6] (fun vs i wr => ∃ k : Nat, k ≤ 7 ∧ i = .int .i64 (k : Int) ∧ vs = .string (str (encL ((fldL p).take k))) ∧ Hid (Blk wr (w.heap.size + 1) 3 ((fldL p).map (Value.int .i64))) ∧ Hid (Below w.heap.size w wr) ∧ Hid (((fldL p).take k).all encOk = true)) (fun vs i wr => 7 - (intOf i).toNat)
  case atStart => exact ⟨0, by omega, rfl, rfl, Lib.hid hlt, Lib.hid hbw, Lib.hid rfl⟩
  case round =>
    obtain ⟨k, hk, rfl, rfl, HL, HW, HO⟩ := hrel
    by_cases hlt : k < 7
    · have hx := HL.out.cell (fld_cell p k hlt)
      have hst := fld_take p k hlt
      obtain ⟨x, hxe⟩ : ∃ x, (fldL p).getD k 0 = x := ⟨_, rfl⟩
      rw [hxe] at hx hst
      have HST := Lib.hid hst
      have HXE := Lib.hid hxe
      clear hst hxe hbw
      cases ho : encOk x with
      | true =>
        have HY := Lib.hid ho
        clear ho
        have hl9 := enc_one x HY.out
        have hle := enc_len _ HO.out
        rw [List.length_take] at hle
        have hl7 : (fldL p).length = 7 := rfl
        rw [hl7] at hle
        have e1 := str_size (encL ((fldL p).take k))
        have e2 := str_size (Leb.enc x)
        obtain ⟨s1, hs1⟩ : ∃ s1, str (encL ((fldL p).take k)) = s1 := ⟨_, rfl⟩
        obtain ⟨s2, hs2⟩ : ∃ s2, str (Leb.enc x) = s2 := ⟨_, rfl⟩
        rw [hs1] at e1 ⊢
        rw [hs2] at e2
        have fs : (9223372036854775807 < s1.size + s2.size) = False := eq_false (by omega)
        have HS := Lib.hid (And.intro hs1 hs2)
        clear hle hl9 hl7 e1 e2 hs1 hs2
        go_wp2_with (first | (go_at_call 28; (with_reducible refine (rput_yes x HY.out _).mono ?_); rintro e w2 ⟨rfl, hb2⟩; rw [HS.out.2]) | fail)
        go_roundw
        case rel =>
          refine ⟨k + 1, by omega, by go_num, ?_, Lib.hid (HL.out.belowS hb2), Lib.hid (Below.trans HW.out (hb2.mono HW.out.size)), Lib.hid ?_⟩
          · rw [HST.out, ← HS.out.1, ← HS.out.2, str_app]
            simp [encL]
          · rw [HST.out, List.all_append, HO.out, List.all_cons, HY.out]; rfl
        case measure => simp [intOf]; omega
      | false =>
        have HY := Lib.hid ho
        clear ho
        go_wp2_with (first | (go_at_call 28; (with_reducible refine (rput_no x HY.out _).mono ?_); rintro e w2 ⟨rfl, hb2⟩) | fail)
        go_ret2
        have hno : okP p = false := by
          unfold okP
          rw [← List.take_append_drop (k + 1) (fldL p), List.all_append, HST.out, List.all_append, List.all_cons, HY.out]
          simp
        unfold encF
        rw [hno]
        exact ⟨rfl, Below.trans HW.out (hb2.mono HW.out.size)⟩
    · obtain rfl : k = 7 := by omega
      have hyes : okP p = true := HO.out
      have he : str (encL ((fldL p).take 7)) = str (encP p) := rfl
      rw [he]
      have HYS := Lib.hid hyes
      clear hyes he
      go_wp2
      go_ret2
      unfold encF
      rw [HYS.out]
      exact ⟨rfl, HW.out⟩
end Go.Proofs.YtooogaogbffjfaaDoor.Ext
end
section
namespace Go.Proofs.YtooogaogbffjfaaDoor.PB
set_option maxRecDepth 100000
open Go.RowKit Go.Proofs.YtooogaogbffjfaaDoorW.PrintWords Go.Proofs.YtooogaogbffjfaaDoorW.PrintLast Go.Proofs.YtooogaogbffjfaaDoorW.PrintMore Go.Proofs.YtooogaogbffjfaaDoor.Ext Go.Proofs.YtooogaogbffjfaaDoor.Bk
set_option linter.unusedVariables false
def aircheckref24_Encode.f (k : Nat) (a0_0 : Int) (a0_1 : Int) (a0_2 : Int) (a0_3 : Int) (a0_4 : Int) (a0_5 : Int) (a0_6 : Int) : Option (ByteArray × Int) := some (encF ⟨a0_0, a0_1, a0_2, a0_3, a0_4, a0_5, a0_6⟩)
theorem aircheckref24_Encode.calls (k : Nat) (a0_0 : Int) (a0_1 : Int) (a0_2 : Int) (a0_3 : Int) (a0_4 : Int) (a0_5 : Int) (a0_6 : Int) (r1 : ByteArray) (r2 : Int) (w : World) (h : aircheckref24_Encode.f k a0_0 a0_1 a0_2 a0_3 a0_4 a0_5 a0_6 = some (r1, r2)) :
  Calls Tryd.prog 7 #[.agg #[.int .i64 a0_0, .int .i64 a0_1, .int .i64 a0_2, .int .i64 a0_3, .int .i64 a0_4, .int .i64 a0_5, .int .i64 a0_6]] w fun e w' => e = .returned (.tuple #[.string r1, .int .i64 r2]) ∧ Below w.heap.size w w' := by
 have h := Option.some.inj h
 have := rencode_walk ⟨a0_0, a0_1, a0_2, a0_3, a0_4, a0_5, a0_6⟩ w
 rw [h] at this
 exact this
end Go.Proofs.YtooogaogbffjfaaDoor.PB
end
section
namespace Go.Proofs.YtooogaogbffjfaaDoor.PB
open Go.Proofs.YtooogaogbffjfaaDoor.Ext
attribute [local go_sem] u32_signed u32_max
open Go.RowKit Go.Proofs.YtooogaogbffjfaaDoorW.PrintWords Go.Proofs.YtooogaogbffjfaaDoorW.PrintLast Go.Proofs.YtooogaogbffjfaaDoorW.PrintMore
attribute [local go_sem] max2_int min2_int max_two min_two max_three min_three max_four min_four   -- for this text's walks alone
set_option linter.unusedVariables false
set_option linter.unusedSimpArgs false
def aircheckref24_Encoded.l0 : Nat → List (S27) → List ByteArray → Int → Option (List ByteArray × Bool)
 | 0, _, _, _ => none
 | k + 1, x0, x4, x5 => if x5 < (x0.length : Int) then (if 0 ≤ x5 then ((aircheckref24_Encode.f k ((rd_T27 x0 x5).f0) ((rd_T27 x0 x5).f1) ((rd_T27 x0 x5).f2) ((rd_T27 x0 x5).f3) ((rd_T27 x0 x5).f4) ((rd_T27 x0 x5).f5) ((rd_T27 x0 x5).f6)).bind fun bt427 => (if bt427.2 = 0 then (if x4.length < 8796093022208 then (aircheckref24_Encoded.l0 k x0 (x4 ++ [bt427.1]) (wrap64 (x5 + 1))) else (none)) else (some (([] : List ByteArray), false)))) else (none)) else (some (x4, true))
def aircheckref24_Encoded.f (k : Nat) (l0 : List (S27)) : Option (List ByteArray × Bool) := aircheckref24_Encoded.l0 k l0 ([] : List ByteArray) 0
set_option maxHeartbeats 8000000 in
set_option maxRecDepth 100000 in
theorem aircheckref24_Encoded.calls (k : Nat) (A0 : Option Addr) (c0 : Nat) (l0 : List (S27)) (r1 : List ByteArray) (r2 : Bool) (w : World) (hr0 : Kd.C k27 w A0 l0.length l0) (hc0 : l0.length ≤ c0) (h : aircheckref24_Encoded.f k l0 = some (r1, r2)) :
  Calls Tryd.prog 36 #[.slice A0 l0.length c0] w fun e w' => ∃ v0_ : Value, e = .returned (.tuple #[v0_, .bool r2]) ∧ Kd.R Kd.string 9 w' w.heap.size (fun _ => True) v0_ r1 ∧ Below w.heap.size w w' := by
 have hu27 := Tryd.underlying27
 have HR0 := Aside0.mk hr0
 have HC0 := Aside0.mk hc0
 clear hr0 hc0
 have HB := Aside0.mk (Below.refl w.heap.size w)
 have H : (aircheckref24_Encoded.l0 k l0 ([] : List ByteArray) 0) = some (r1, r2) := h
 clear h
 have H' := Aside0.mk H
 clear H
 go_enter Tryd.func36, Tryd.ntmps36
 go_wp2
 go_loopg [4, 5] k (fun kq v4 v5 w' => ∃ (x4_1 : List ByteArray) (x5_1 : Int), v5 = .int .i64 x5_1 ∧ Aside0 (aircheckref24_Encoded.l0 kq l0 x4_1 x5_1 = some (r1, r2)) ∧ Aside0 (kq ≤ k) ∧ Aside0 (Kd.R Kd.string 9 w' w.heap.size (fun _ => True) v4 x4_1) ∧ Aside0 (Below w.heap.size w w'))
 case atStart => exact ⟨(([] : List ByteArray)), (0), (by first | rfl | (simp; done) | (simp [*]; done)), H', ⟨Nat.le_refl _⟩, ⟨by first | exact Kd.R_nil _ _ _ _ _ | exact Kd.N_nil _ _ _ _ _ | exact Kd.V_nil _ _ _ _ _ | exact Kd.Q_nil _ _ _ _ _ | exact Kd.S_nil _ _ _ _ _⟩, ⟨by repeat (first | (with_reducible first | exact HB.out | apply below_alloc | apply pw_below_drewN | apply below_drew1) | exact HB.out)⟩⟩
 case round =>
  clear H'
  obtain ⟨x4_1, x5_1, rfl, HA, HK1, HO_4, HB⟩ := hrel
  cases gk with
  | zero => exact absurd HA.out (by simp [aircheckref24_Encoded.l0])
  | succ k1 =>
   have H := HA.out
   clear HA
   simp only [aircheckref24_Encoded.l0] at H
   by_cases c2 : x5_1 < (l0.length : Int)
   ·rw [if_pos c2] at H
    have c2b0 : decide (x5_1 < (l0.length : Int)) = true := decide_eq_true c2
    clear c2
    by_cases c3 : 0 ≤ x5_1
    ·rw [if_pos c3] at H
     have c3b0 : decide (0 ≤ x5_1) = true := decide_eq_true c3
     clear c3
     replace H := Option.bind_eq_some_iff.mp H
     obtain ⟨⟨t427, t428⟩, A40, H⟩ := H
     replace H : (if t428 = 0 then (if x4_1.length < 8796093022208 then (aircheckref24_Encoded.l0 k1 l0 (x4_1 ++ [t427]) (wrap64 (x5_1 + 1))) else (none)) else (some (([] : List ByteArray), false))) = some (r1, r2) := H
     have A4 := Aside0.mk A40
     clear A40
     by_cases c5 : t428 = 0
     ·rw [if_pos c5] at H
      have c5b0 : (t428 == 0) = true := beq_iff_eq.mpr c5
      have c5b1 : (t428 != 0) = false := bne_eq_false_iff_eq.mpr c5
      clear c5
      by_cases c6 : x4_1.length < 8796093022208
      ·rw [if_pos c6] at H
       have LMc6 := Aside0.mk c6
       clear c6
       obtain ⟨y429, hy429⟩ : ∃ y_ : List ByteArray, y_ = (x4_1 ++ [t427]) := ⟨_, rfl⟩
       replace H : (aircheckref24_Encoded.l0 k1 l0 y429 (wrap64 (x5_1 + 1))) = some (r1, r2) := by first | (rw [hy429]; with_reducible exact H) | (have H2_ := (Option.bind_some _ _).symm.trans H; rw [hy429]; with_reducible exact H2_) | (have H2_ := (Option.bind_some _ _).symm.trans H; with_reducible exact H2_) | with_reducible exact H | (rw [hy429]; exact H) | exact H
       have Ny429 := Aside0.mk hy429
       clear hy429
       have H' := Aside0.mk H
       clear H
       have p426 : 0 ≤ (x5_1 : Int) := of_decide_eq_true (by first | (with_reducible assumption) | assumption)
       have q426 : x5_1 < (l0.length : Int) := of_decide_eq_true (by first | (with_reducible assumption) | assumption)
       obtain ⟨ad426, e426, hx426_0, hx426_1, hx426_2, hx426_3, hx426_4, hx426_5, hx426_6⟩ := at_T27 HR0.out x5_1 p426 q426
       cases e426
       replace hx426_0 := (HB.out.cell (World.block_lt_of_cell? w _ hx426_0)).trans hx426_0
       replace hx426_1 := (HB.out.cell (World.block_lt_of_cell? w _ hx426_1)).trans hx426_1
       replace hx426_2 := (HB.out.cell (World.block_lt_of_cell? w _ hx426_2)).trans hx426_2
       replace hx426_3 := (HB.out.cell (World.block_lt_of_cell? w _ hx426_3)).trans hx426_3
       replace hx426_4 := (HB.out.cell (World.block_lt_of_cell? w _ hx426_4)).trans hx426_4
       replace hx426_5 := (HB.out.cell (World.block_lt_of_cell? w _ hx426_5)).trans hx426_5
       replace hx426_6 := (HB.out.cell (World.block_lt_of_cell? w _ hx426_6)).trans hx426_6
       replace p426 := eq_true p426
       replace q426 := eq_true q426
       go_wp2_with (first | ((with_reducible refine gate_callee (f := 7) rfl ?_); refine goesL_ (some 19) rfl rfl Tryd.func7 (by kernel_rfl) rfl #[.agg #[.int .i64 ((rd_T27 l0 x5_1).f0), .int .i64 ((rd_T27 l0 x5_1).f1), .int .i64 ((rd_T27 l0 x5_1).f2), .int .i64 ((rd_T27 l0 x5_1).f3), .int .i64 ((rd_T27 l0 x5_1).f4), .int .i64 ((rd_T27 l0 x5_1).f5), .int .i64 ((rd_T27 l0 x5_1).f6)]] rfl (by (try simp only [List.map_toArray, List.map_cons, List.map_nil]); first | done | rfl | (simp only [List.length_drop, List.length_take]; rfl)) ?_; (with_reducible refine (aircheckref24_Encode.calls k1 ((rd_T27 l0 x5_1).f0) ((rd_T27 l0 x5_1).f1) ((rd_T27 l0 x5_1).f2) ((rd_T27 l0 x5_1).f3) ((rd_T27 l0 x5_1).f4) ((rd_T27 l0 x5_1).f5) ((rd_T27 l0 x5_1).f6) t427 t428 _ A4.out).mono ?_); rintro e w7 ⟨rfl, hb⟩; refine ⟨_, rfl, ?_⟩; have n0_ := Aside0.mk (Kd.R_below (by (with_reducible repeat (first | apply Kd.R_alloc | apply Kd.R_drewN | apply Kd.R_drew)); exact HO_4.out) hb); have n1_ := Aside0.mk (below_step (by repeat (first | (with_reducible first | exact HB.out | apply below_alloc | apply pw_below_drewN | apply below_drew1) | exact HB.out)) hb); clear HO_4; clear HB; have HO_4 := n0_; have HB := n1_; clear n0_ n1_; (try clear hb); (try clear hb2); (try clear hk); (try clear hi)) | ((with_reducible refine gate_builtin (b := .append) (xs := #[.tmp 24, .tmp 26]) rfl ?_); at_builtin; refine Kd.R_append Kd.string (w0 := w) w.heap.size rfl (.tmp 24) (.tmp 26) 36 9 (.string ⟨#[]⟩) 16 rfl Tryd.underlying36 info9 rfl (by decide) (by omega) u4 x4_1 t427 [.string t427] (fun _ => True) (fun _ => False) rfl rfl ?aP (fun _ hk => hk.elim) ?aF ?aO ?aB ?aS ?aL ?_; (case aP => exact rfl); (case aB => exact (by repeat (first | (with_reducible first | exact HB.out | apply below_alloc | apply pw_below_drewN | apply below_drew1) | exact HB.out))); (case aF => exact (fun _ _ => trivial)); (case aO => exact (by (with_reducible repeat (first | apply Kd.R_alloc | apply Kd.R_drewN | apply Kd.R_drew)); exact HO_4.out)); (case aS => exact (below_size (by repeat (first | (with_reducible first | exact HB.out | apply below_alloc | apply pw_below_drewN | apply below_drew1) | exact HB.out)))); (case aL => have := LMc6.out; omega); intro v430 w8 ho hb hg hat; rw [← Ny429.out] at ho; have n0_ := Aside0.mk (hb); have n1_ := Aside0.mk (ho); clear HB; clear HO_4; have HB := n0_; have HO431 := n1_; clear n0_ n1_; clear ho hb hg hat))
       go_roundg k1
       case measure => have := HK1.out; omega
       case rel => exact ⟨(y429), (wrap64 (x5_1 + 1)), (by first | rfl | (simp; done) | (simp [*]; done)), H', ⟨by have := HK1.out; omega⟩, ⟨by (with_reducible repeat (first | apply Kd.R_alloc | apply Kd.R_drewN | apply Kd.R_drew)); exact HO431.out⟩, ⟨by repeat (first | (with_reducible first | exact HB.out | apply below_alloc | apply pw_below_drewN | apply below_drew1) | exact HB.out)⟩⟩
      ·rw [if_neg c6] at H
       exact absurd H (by simp)
     ·rw [if_neg c5] at H
      have c5b0 : (t428 == 0) = false := beq_eq_false_iff_ne.mpr c5
      have c5b1 : (t428 != 0) = true := bne_iff_ne.mpr c5
      simp only [Option.some.injEq, Prod.mk.injEq] at H
      obtain ⟨rfl, rfl⟩ := H
      have p426 : 0 ≤ (x5_1 : Int) := of_decide_eq_true (by first | (with_reducible assumption) | assumption)
      have q426 : x5_1 < (l0.length : Int) := of_decide_eq_true (by first | (with_reducible assumption) | assumption)
      obtain ⟨ad426, e426, hx426_0, hx426_1, hx426_2, hx426_3, hx426_4, hx426_5, hx426_6⟩ := at_T27 HR0.out x5_1 p426 q426
      cases e426
      replace hx426_0 := (HB.out.cell (World.block_lt_of_cell? w _ hx426_0)).trans hx426_0
      replace hx426_1 := (HB.out.cell (World.block_lt_of_cell? w _ hx426_1)).trans hx426_1
      replace hx426_2 := (HB.out.cell (World.block_lt_of_cell? w _ hx426_2)).trans hx426_2
      replace hx426_3 := (HB.out.cell (World.block_lt_of_cell? w _ hx426_3)).trans hx426_3
      replace hx426_4 := (HB.out.cell (World.block_lt_of_cell? w _ hx426_4)).trans hx426_4
      replace hx426_5 := (HB.out.cell (World.block_lt_of_cell? w _ hx426_5)).trans hx426_5
      replace hx426_6 := (HB.out.cell (World.block_lt_of_cell? w _ hx426_6)).trans hx426_6
      replace p426 := eq_true p426
      replace q426 := eq_true q426
      go_wp2_with (first | ((with_reducible refine gate_callee (f := 7) rfl ?_); refine goesL_ (some 19) rfl rfl Tryd.func7 (by kernel_rfl) rfl #[.agg #[.int .i64 ((rd_T27 l0 x5_1).f0), .int .i64 ((rd_T27 l0 x5_1).f1), .int .i64 ((rd_T27 l0 x5_1).f2), .int .i64 ((rd_T27 l0 x5_1).f3), .int .i64 ((rd_T27 l0 x5_1).f4), .int .i64 ((rd_T27 l0 x5_1).f5), .int .i64 ((rd_T27 l0 x5_1).f6)]] rfl (by (try simp only [List.map_toArray, List.map_cons, List.map_nil]); first | done | rfl | (simp only [List.length_drop, List.length_take]; rfl)) ?_; (with_reducible refine (aircheckref24_Encode.calls k1 ((rd_T27 l0 x5_1).f0) ((rd_T27 l0 x5_1).f1) ((rd_T27 l0 x5_1).f2) ((rd_T27 l0 x5_1).f3) ((rd_T27 l0 x5_1).f4) ((rd_T27 l0 x5_1).f5) ((rd_T27 l0 x5_1).f6) t427 t428 _ A4.out).mono ?_); rintro e w9 ⟨rfl, hb⟩; refine ⟨_, rfl, ?_⟩; have n0_ := Aside0.mk (Kd.R_below (by (with_reducible repeat (first | apply Kd.R_alloc | apply Kd.R_drewN | apply Kd.R_drew)); exact HO_4.out) hb); have n1_ := Aside0.mk (below_step (by repeat (first | (with_reducible first | exact HB.out | apply below_alloc | apply pw_below_drewN | apply below_drew1) | exact HB.out)) hb); clear HO_4; clear HB; have HO_4 := n0_; have HB := n1_; clear n0_ n1_; (try clear hb); (try clear hb2); (try clear hk); (try clear hi)))
      go_ret2
      exact ⟨_, by first | rfl | (simp [errW_none, errW_some] <;> rfl) | (simp [*, errW_none, errW_some] <;> rfl), by first | exact Kd.R_nil _ _ _ _ _ | exact Kd.N_nil _ _ _ _ _ | exact Kd.V_nil _ _ _ _ _ | exact Kd.Q_nil _ _ _ _ _ | exact Kd.S_nil _ _ _ _ _, by repeat (first | (with_reducible first | exact HB.out | apply below_alloc | apply pw_below_drewN | apply below_drew1) | exact HB.out)⟩
    ·rw [if_neg c3] at H
     exact absurd H (by simp)
   ·rw [if_neg c2] at H
    have c2b0 : decide (x5_1 < (l0.length : Int)) = false := decide_eq_false c2
    clear c2
    simp only [Option.some.injEq, Prod.mk.injEq] at H
    obtain ⟨rfl, rfl⟩ := H
    go_wp2
    go_ret2
    exact ⟨_, by first | rfl | (simp [errW_none, errW_some] <;> rfl) | (simp [*, errW_none, errW_some] <;> rfl), by (with_reducible repeat (first | apply Kd.R_alloc | apply Kd.R_drewN | apply Kd.R_drew)); exact HO_4.out, by repeat (first | (with_reducible first | exact HB.out | apply below_alloc | apply pw_below_drewN | apply below_drew1) | exact HB.out)⟩
end Go.Proofs.YtooogaogbffjfaaDoor.PB
end
section
namespace Go.Proofs.YtooogaogbffjfaaDoor.PB
open Go.Proofs.YtooogaogbffjfaaDoor.Ext
attribute [local go_sem] u32_signed u32_max
open Go.RowKit Go.Proofs.YtooogaogbffjfaaDoorW.PrintWords Go.Proofs.YtooogaogbffjfaaDoorW.PrintLast Go.Proofs.YtooogaogbffjfaaDoorW.PrintMore
attribute [local go_sem] max2_int min2_int max_two min_two max_three min_three max_four min_four   -- for this text's walks alone
set_option linter.unusedVariables false
set_option linter.unusedSimpArgs false
def aircheckref24_Head.f (k : Nat) (a0_0 : Int) (l0_1 : List (S27)) (a0_2 : Int) : Option (ByteArray × Int) := (aircheckref24_Encoded.f k l0_1).bind fun bt459 => (if bt459.2 = true then ((aircheckref24_Valid.f k a0_0 l0_1 a0_2).bind fun t463 => (if t463 = true then ((aircheckref02_Head.f k bt459.1).bind fun t464 => (some (t464, 0))) else (some ((⟨#[]⟩ : ByteArray), 240)))) else (some ((⟨#[]⟩ : ByteArray), 240)))
set_option maxHeartbeats 8000000 in
set_option maxRecDepth 100000 in
theorem aircheckref24_Head.calls (k : Nat) (a0_0 : Int) (A0_1 : Option Addr) (c0_1 : Nat) (l0_1 : List (S27)) (a0_2 : Int) (r1 : ByteArray) (r2 : Int) (w : World) (hr0_1 : Kd.C k27 w A0_1 l0_1.length l0_1) (hc0_1 : l0_1.length ≤ c0_1) (h : aircheckref24_Head.f k a0_0 l0_1 a0_2 = some (r1, r2)) :
  Calls Tryd.prog 10 #[.agg #[.int .i64 a0_0, .slice A0_1 l0_1.length c0_1, .int .i64 a0_2]] w fun e w' => e = .returned (.tuple #[.string r1, .int .i64 r2]) ∧ Below w.heap.size w w' := by
 have hu24 := Tryd.underlying24
 have HR0_1 := Aside0.mk hr0_1
 have HC0_1 := Aside0.mk hc0_1
 clear hr0_1 hc0_1
 have HB := Aside0.mk (Below.refl w.heap.size w)
 have H : ((aircheckref24_Encoded.f k l0_1).bind fun bt459 => (if bt459.2 = true then ((aircheckref24_Valid.f k a0_0 l0_1 a0_2).bind fun t463 => (if t463 = true then ((aircheckref02_Head.f k bt459.1).bind fun t464 => (some (t464, 0))) else (some ((⟨#[]⟩ : ByteArray), 240)))) else (some ((⟨#[]⟩ : ByteArray), 240)))) = some (r1, r2) := h
 clear h
 replace H := Option.bind_eq_some_iff.mp H
 obtain ⟨⟨t459, t460⟩, A20, H⟩ := H
 replace H : (if t460 = true then ((aircheckref24_Valid.f k a0_0 l0_1 a0_2).bind fun t463 => (if t463 = true then ((aircheckref02_Head.f k t459).bind fun t464 => (some (t464, 0))) else (some ((⟨#[]⟩ : ByteArray), 240)))) else (some ((⟨#[]⟩ : ByteArray), 240))) = some (r1, r2) := H
 have A2 := Aside0.mk A20
 clear A20
 by_cases c3 : t460 = true
 ·subst c3
  have H1 : ((aircheckref24_Valid.f k a0_0 l0_1 a0_2).bind fun t463 => (if t463 = true then ((aircheckref02_Head.f k t459).bind fun t464 => (some (t464, 0))) else (some ((⟨#[]⟩ : ByteArray), 240)))) = some (r1, r2) := by rw [if_pos rfl] at H; exact H
  clear H
  have H := H1
  clear H1
  replace H := Option.bind_eq_some_iff.mp H
  obtain ⟨t463, A40, H⟩ := H
  replace H : (if t463 = true then ((aircheckref02_Head.f k t459).bind fun t464 => (some (t464, 0))) else (some ((⟨#[]⟩ : ByteArray), 240))) = some (r1, r2) := H
  have A4 := Aside0.mk A40
  clear A40
  by_cases c5 : t463 = true
  ·subst c5
   have H1 : ((aircheckref02_Head.f k t459).bind fun t464 => (some (t464, 0))) = some (r1, r2) := by rw [if_pos rfl] at H; exact H
   clear H
   have H := H1
   clear H1
   replace H := Option.bind_eq_some_iff.mp H
   obtain ⟨t464, A60, H⟩ := H
   replace H : (some (t464, 0)) = some (r1, r2) := H
   have A6 := Aside0.mk A60
   clear A60
   simp only [Option.some.injEq, Prod.mk.injEq] at H
   obtain ⟨rfl, rfl⟩ := H
   go_enter Tryd.func10, Tryd.ntmps10
   go_wp2_with (first | ((with_reducible refine gate_dst (N := 1) rfl ?_); refine box_event ?hg (N := 1) ?hd (cs := #[.int .i64 a0_0, .slice A0_1 l0_1.length c0_1, .int .i64 a0_2]) (t := 24) ?hr ?_; (case hd => rfl); (case hg => rfl); (case hr => first | (go_simp; done) | (go_simp; rfl)); intro gb458 hg w7 hbox hb; have n0_ := Aside0.mk (below_step (by repeat (first | (with_reducible first | exact HB.out | apply below_alloc | apply pw_below_drewN | apply below_drew1) | exact HB.out)) hb); have n1_ := Aside0.mk (hbox); have n2_ := Aside0.mk ((by rw [hg]; exact (below_size (by repeat (first | (with_reducible first | exact HB.out | apply below_alloc | apply pw_below_drewN | apply below_drew1) | exact HB.out))) : w.heap.size ≤ gb458)); have n3_ := Aside0.mk ((by rw [hg]; exact (below_size (by repeat (first | (with_reducible first | exact HB.out | apply below_alloc | apply pw_below_drewN | apply below_drew1) | exact HB.out))) : w.heap.size ≤ gb458)); clear HB; have HB := n0_; have BK458 := n1_; have GW458 := n2_; have GE458 := n3_; clear n0_ n1_ n2_ n3_; clear hb hbox hg; have hcz8_0 : w7.cell? ⟨gb458, 0, none⟩ = some (.int .i64 a0_0) := (blk_cell BK458.out 0).trans rfl; have hcz8_1 : w7.cell? ⟨gb458, 1, none⟩ = some (.slice A0_1 l0_1.length c0_1) := (blk_cell BK458.out 1).trans rfl; have hcz8_2 : w7.cell? ⟨gb458, 2, none⟩ = some (.int .i64 a0_2) := (blk_cell BK458.out 2).trans rfl; have hfz8_0 := blk_frozen BK458.out 0; have hfz8_1 := blk_frozen BK458.out 1; have hfz8_2 := blk_frozen BK458.out 2) | ((with_reducible refine gate_callee (f := 36) rfl ?_); refine goesL_ (some 9) rfl rfl Tryd.func36 (by kernel_rfl) rfl #[.slice A0_1 l0_1.length c0_1] rfl (by (try simp only [List.map_toArray, List.map_cons, List.map_nil]); first | done | rfl | (simp only [List.length_drop, List.length_take]; rfl)) ?_; (with_reducible refine (aircheckref24_Encoded.calls k _ _ l0_1 t459 true _ ?side1 ?side2 A2.out).mono ?_); (case side1 => repeat (first | exact (Kd.C_below HR0_1.out HB.out) | (with_reducible refine Kd.C_alloc ?_ _) | (with_reducible refine Kd.C_drewN ?_ _) | (with_reducible refine Kd.C_drew ?_))); (case side2 => exact HC0_1.out); rintro e w9 ⟨v461, rfl, ho0, hb⟩; refine ⟨_, rfl, ?_⟩; have n0_ := Aside0.mk (Kd.R_lower ho0 (below_size (by repeat (first | (with_reducible first | exact HB.out | apply below_alloc | apply pw_below_drewN | apply below_drew1 | refine below_set ?_ GE458.out) | exact HB.out)))); have n1_ := Aside0.mk (blk_below (g := gb458) (o := .cells #[.int .i64 a0_0, .slice A0_1 l0_1.length c0_1, .int .i64 a0_2] 24 (0, 0)) (by (with_reducible repeat (first | refine blk_drewN ?_ _ | refine blk_drew ?_ | refine blk_alloc ?_ _)); exact BK458.out) hb); have n2_ := Aside0.mk (below_step (by repeat (first | (with_reducible first | exact HB.out | apply below_alloc | apply pw_below_drewN | apply below_drew1 | refine below_set ?_ GE458.out) | exact HB.out)) hb); clear BK458; clear HB; have HO462 := n0_; have BK458 := n1_; have HB := n2_; clear n0_ n1_ n2_; (try clear hb); (try clear hb2); (try clear hk); (try clear hi); (try clear ho0); have hcz10_0 : w9.cell? ⟨gb458, 0, none⟩ = some (.int .i64 a0_0) := (blk_cell BK458.out 0).trans rfl; have hcz10_1 : w9.cell? ⟨gb458, 1, none⟩ = some (.slice A0_1 l0_1.length c0_1) := (blk_cell BK458.out 1).trans rfl; have hcz10_2 : w9.cell? ⟨gb458, 2, none⟩ = some (.int .i64 a0_2) := (blk_cell BK458.out 2).trans rfl; have hfz10_0 := blk_frozen BK458.out 0; have hfz10_1 := blk_frozen BK458.out 1; have hfz10_2 := blk_frozen BK458.out 2) | (go_at_call 37; (with_reducible refine (aircheckref24_Valid.calls k a0_0 _ _ l0_1 a0_2 true _ ?side1 ?side2 A4.out).mono ?_); (case side1 => repeat (first | exact (Kd.C_below HR0_1.out HB.out) | (with_reducible refine Kd.C_alloc ?_ _) | (with_reducible refine Kd.C_drewN ?_ _) | (with_reducible refine Kd.C_drew ?_))); (case side2 => exact HC0_1.out); rintro e w11 ⟨rfl, hb⟩; have n0_ := Aside0.mk (Kd.R_below (by (with_reducible repeat (first | apply Kd.R_alloc | apply Kd.R_drewN | apply Kd.R_drew)); exact HO462.out) hb); have n1_ := Aside0.mk (blk_below (g := gb458) (o := .cells #[.int .i64 a0_0, .slice A0_1 l0_1.length c0_1, .int .i64 a0_2] 24 (0, 0)) (by (with_reducible repeat (first | refine blk_drewN ?_ _ | refine blk_drew ?_ | refine blk_alloc ?_ _)); exact BK458.out) hb); have n2_ := Aside0.mk (below_step (by repeat (first | (with_reducible first | exact HB.out | apply below_alloc | apply pw_below_drewN | apply below_drew1 | refine below_set ?_ GE458.out) | exact HB.out)) hb); clear HO462; clear BK458; clear HB; have HO462 := n0_; have BK458 := n1_; have HB := n2_; clear n0_ n1_ n2_; (try clear hb); (try clear hb2); (try clear hk); (try clear hi); obtain ⟨Ao12, co12, eo12⟩ := Kd.R_slice HO462.out; subst eo12) | ((with_reducible refine gate_callee (f := 12) rfl ?_); refine goesL_ (some 20) rfl rfl Tryd.func12 (by kernel_rfl) rfl #[.slice Ao12 t459.length co12] rfl (by (try simp only [List.map_toArray, List.map_cons, List.map_nil]); first | done | rfl | (simp only [List.length_drop, List.length_take]; rfl)) ?_; (with_reducible refine (aircheckref02_Head.calls k _ _ t459 t464 _ ?side1 ?side2 A6.out).mono ?_); (case side1 => repeat (first | exact (Kd.R_reads' HO462.out).2.2 | (with_reducible refine Kd.C_alloc ?_ _) | (with_reducible refine Kd.C_drewN ?_ _) | (with_reducible refine Kd.C_drew ?_))); (case side2 => exact (Kd.R_reads' HO462.out).2.1); rintro e w13 ⟨rfl, hb⟩; refine ⟨_, rfl, ?_⟩; have n0_ := Aside0.mk (Kd.R_below (by (with_reducible repeat (first | apply Kd.R_alloc | apply Kd.R_drewN | apply Kd.R_drew)); exact HO462.out) hb); have n1_ := Aside0.mk (blk_below (g := gb458) (o := .cells #[.int .i64 a0_0, .slice A0_1 l0_1.length c0_1, .int .i64 a0_2] 24 (0, 0)) (by (with_reducible repeat (first | refine blk_drewN ?_ _ | refine blk_drew ?_ | refine blk_alloc ?_ _)); exact BK458.out) hb); have n2_ := Aside0.mk (below_step (by repeat (first | (with_reducible first | exact HB.out | apply below_alloc | apply pw_below_drewN | apply below_drew1 | refine below_set ?_ GE458.out) | exact HB.out)) hb); clear HO462; clear BK458; clear HB; have HO462 := n0_; have BK458 := n1_; have HB := n2_; clear n0_ n1_ n2_; (try clear hb); (try clear hb2); (try clear hk); (try clear hi)))
   go_ret2
   exact ⟨by first | rfl | (simp [errW_none, errW_some] <;> rfl) | (simp [*, errW_none, errW_some] <;> rfl), by repeat (first | (with_reducible first | exact HB.out | apply below_alloc | apply pw_below_drewN | apply below_drew1 | refine below_set ?_ GE458.out) | exact HB.out)⟩
  ·replace c5 := Bool.eq_false_iff.mpr c5
   subst c5
   have H1 : (some ((⟨#[]⟩ : ByteArray), 240)) = some (r1, r2) := by rw [if_neg (show ¬ (false = true) by decide)] at H; exact H
   clear H
   have H := H1
   clear H1
   simp only [Option.some.injEq, Prod.mk.injEq] at H
   obtain ⟨rfl, rfl⟩ := H
   go_enter Tryd.func10, Tryd.ntmps10
   go_wp2_with (first | ((with_reducible refine gate_dst (N := 1) rfl ?_); refine box_event ?hg (N := 1) ?hd (cs := #[.int .i64 a0_0, .slice A0_1 l0_1.length c0_1, .int .i64 a0_2]) (t := 24) ?hr ?_; (case hd => rfl); (case hg => rfl); (case hr => first | (go_simp; done) | (go_simp; rfl)); intro gb458 hg w14 hbox hb; have n0_ := Aside0.mk (below_step (by repeat (first | (with_reducible first | exact HB.out | apply below_alloc | apply pw_below_drewN | apply below_drew1) | exact HB.out)) hb); have n1_ := Aside0.mk (hbox); have n2_ := Aside0.mk ((by rw [hg]; exact (below_size (by repeat (first | (with_reducible first | exact HB.out | apply below_alloc | apply pw_below_drewN | apply below_drew1) | exact HB.out))) : w.heap.size ≤ gb458)); have n3_ := Aside0.mk ((by rw [hg]; exact (below_size (by repeat (first | (with_reducible first | exact HB.out | apply below_alloc | apply pw_below_drewN | apply below_drew1) | exact HB.out))) : w.heap.size ≤ gb458)); clear HB; have HB := n0_; have BK458 := n1_; have GW458 := n2_; have GE458 := n3_; clear n0_ n1_ n2_ n3_; clear hb hbox hg; have hcz15_0 : w14.cell? ⟨gb458, 0, none⟩ = some (.int .i64 a0_0) := (blk_cell BK458.out 0).trans rfl; have hcz15_1 : w14.cell? ⟨gb458, 1, none⟩ = some (.slice A0_1 l0_1.length c0_1) := (blk_cell BK458.out 1).trans rfl; have hcz15_2 : w14.cell? ⟨gb458, 2, none⟩ = some (.int .i64 a0_2) := (blk_cell BK458.out 2).trans rfl; have hfz15_0 := blk_frozen BK458.out 0; have hfz15_1 := blk_frozen BK458.out 1; have hfz15_2 := blk_frozen BK458.out 2) | ((with_reducible refine gate_callee (f := 36) rfl ?_); refine goesL_ (some 9) rfl rfl Tryd.func36 (by kernel_rfl) rfl #[.slice A0_1 l0_1.length c0_1] rfl (by (try simp only [List.map_toArray, List.map_cons, List.map_nil]); first | done | rfl | (simp only [List.length_drop, List.length_take]; rfl)) ?_; (with_reducible refine (aircheckref24_Encoded.calls k _ _ l0_1 t459 true _ ?side1 ?side2 A2.out).mono ?_); (case side1 => repeat (first | exact (Kd.C_below HR0_1.out HB.out) | (with_reducible refine Kd.C_alloc ?_ _) | (with_reducible refine Kd.C_drewN ?_ _) | (with_reducible refine Kd.C_drew ?_))); (case side2 => exact HC0_1.out); rintro e w16 ⟨v461, rfl, ho0, hb⟩; refine ⟨_, rfl, ?_⟩; have n0_ := Aside0.mk (Kd.R_lower ho0 (below_size (by repeat (first | (with_reducible first | exact HB.out | apply below_alloc | apply pw_below_drewN | apply below_drew1 | refine below_set ?_ GE458.out) | exact HB.out)))); have n1_ := Aside0.mk (blk_below (g := gb458) (o := .cells #[.int .i64 a0_0, .slice A0_1 l0_1.length c0_1, .int .i64 a0_2] 24 (0, 0)) (by (with_reducible repeat (first | refine blk_drewN ?_ _ | refine blk_drew ?_ | refine blk_alloc ?_ _)); exact BK458.out) hb); have n2_ := Aside0.mk (below_step (by repeat (first | (with_reducible first | exact HB.out | apply below_alloc | apply pw_below_drewN | apply below_drew1 | refine below_set ?_ GE458.out) | exact HB.out)) hb); clear BK458; clear HB; have HO462 := n0_; have BK458 := n1_; have HB := n2_; clear n0_ n1_ n2_; (try clear hb); (try clear hb2); (try clear hk); (try clear hi); (try clear ho0); have hcz17_0 : w16.cell? ⟨gb458, 0, none⟩ = some (.int .i64 a0_0) := (blk_cell BK458.out 0).trans rfl; have hcz17_1 : w16.cell? ⟨gb458, 1, none⟩ = some (.slice A0_1 l0_1.length c0_1) := (blk_cell BK458.out 1).trans rfl; have hcz17_2 : w16.cell? ⟨gb458, 2, none⟩ = some (.int .i64 a0_2) := (blk_cell BK458.out 2).trans rfl; have hfz17_0 := blk_frozen BK458.out 0; have hfz17_1 := blk_frozen BK458.out 1; have hfz17_2 := blk_frozen BK458.out 2) | (go_at_call 37; (with_reducible refine (aircheckref24_Valid.calls k a0_0 _ _ l0_1 a0_2 false _ ?side1 ?side2 A4.out).mono ?_); (case side1 => repeat (first | exact (Kd.C_below HR0_1.out HB.out) | (with_reducible refine Kd.C_alloc ?_ _) | (with_reducible refine Kd.C_drewN ?_ _) | (with_reducible refine Kd.C_drew ?_))); (case side2 => exact HC0_1.out); rintro e w18 ⟨rfl, hb⟩; have n0_ := Aside0.mk (Kd.R_below (by (with_reducible repeat (first | apply Kd.R_alloc | apply Kd.R_drewN | apply Kd.R_drew)); exact HO462.out) hb); have n1_ := Aside0.mk (blk_below (g := gb458) (o := .cells #[.int .i64 a0_0, .slice A0_1 l0_1.length c0_1, .int .i64 a0_2] 24 (0, 0)) (by (with_reducible repeat (first | refine blk_drewN ?_ _ | refine blk_drew ?_ | refine blk_alloc ?_ _)); exact BK458.out) hb); have n2_ := Aside0.mk (below_step (by repeat (first | (with_reducible first | exact HB.out | apply below_alloc | apply pw_below_drewN | apply below_drew1 | refine below_set ?_ GE458.out) | exact HB.out)) hb); clear HO462; clear BK458; clear HB; have HO462 := n0_; have BK458 := n1_; have HB := n2_; clear n0_ n1_ n2_; (try clear hb); (try clear hb2); (try clear hk); (try clear hi)))
   go_ret2
   exact ⟨by first | rfl | (simp [errW_none, errW_some] <;> rfl) | (simp [*, errW_none, errW_some] <;> rfl), by repeat (first | (with_reducible first | exact HB.out | apply below_alloc | apply pw_below_drewN | apply below_drew1 | refine below_set ?_ GE458.out) | exact HB.out)⟩
 ·replace c3 := Bool.eq_false_iff.mpr c3
  subst c3
  have H1 : (some ((⟨#[]⟩ : ByteArray), 240)) = some (r1, r2) := by rw [if_neg (show ¬ (false = true) by decide)] at H; exact H
  clear H
  have H := H1
  clear H1
  simp only [Option.some.injEq, Prod.mk.injEq] at H
  obtain ⟨rfl, rfl⟩ := H
  go_enter Tryd.func10, Tryd.ntmps10
  go_wp2_with (first | ((with_reducible refine gate_dst (N := 1) rfl ?_); refine box_event ?hg (N := 1) ?hd (cs := #[.int .i64 a0_0, .slice A0_1 l0_1.length c0_1, .int .i64 a0_2]) (t := 24) ?hr ?_; (case hd => rfl); (case hg => rfl); (case hr => first | (go_simp; done) | (go_simp; rfl)); intro gb458 hg w19 hbox hb; have n0_ := Aside0.mk (below_step (by repeat (first | (with_reducible first | exact HB.out | apply below_alloc | apply pw_below_drewN | apply below_drew1) | exact HB.out)) hb); have n1_ := Aside0.mk (hbox); have n2_ := Aside0.mk ((by rw [hg]; exact (below_size (by repeat (first | (with_reducible first | exact HB.out | apply below_alloc | apply pw_below_drewN | apply below_drew1) | exact HB.out))) : w.heap.size ≤ gb458)); have n3_ := Aside0.mk ((by rw [hg]; exact (below_size (by repeat (first | (with_reducible first | exact HB.out | apply below_alloc | apply pw_below_drewN | apply below_drew1) | exact HB.out))) : w.heap.size ≤ gb458)); clear HB; have HB := n0_; have BK458 := n1_; have GW458 := n2_; have GE458 := n3_; clear n0_ n1_ n2_ n3_; clear hb hbox hg; have hcz20_0 : w19.cell? ⟨gb458, 0, none⟩ = some (.int .i64 a0_0) := (blk_cell BK458.out 0).trans rfl; have hcz20_1 : w19.cell? ⟨gb458, 1, none⟩ = some (.slice A0_1 l0_1.length c0_1) := (blk_cell BK458.out 1).trans rfl; have hcz20_2 : w19.cell? ⟨gb458, 2, none⟩ = some (.int .i64 a0_2) := (blk_cell BK458.out 2).trans rfl; have hfz20_0 := blk_frozen BK458.out 0; have hfz20_1 := blk_frozen BK458.out 1; have hfz20_2 := blk_frozen BK458.out 2) | ((with_reducible refine gate_callee (f := 36) rfl ?_); refine goesL_ (some 9) rfl rfl Tryd.func36 (by kernel_rfl) rfl #[.slice A0_1 l0_1.length c0_1] rfl (by (try simp only [List.map_toArray, List.map_cons, List.map_nil]); first | done | rfl | (simp only [List.length_drop, List.length_take]; rfl)) ?_; (with_reducible refine (aircheckref24_Encoded.calls k _ _ l0_1 t459 false _ ?side1 ?side2 A2.out).mono ?_); (case side1 => repeat (first | exact (Kd.C_below HR0_1.out HB.out) | (with_reducible refine Kd.C_alloc ?_ _) | (with_reducible refine Kd.C_drewN ?_ _) | (with_reducible refine Kd.C_drew ?_))); (case side2 => exact HC0_1.out); rintro e w21 ⟨v461, rfl, ho0, hb⟩; refine ⟨_, rfl, ?_⟩; have n0_ := Aside0.mk (Kd.R_lower ho0 (below_size (by repeat (first | (with_reducible first | exact HB.out | apply below_alloc | apply pw_below_drewN | apply below_drew1 | refine below_set ?_ GE458.out) | exact HB.out)))); have n1_ := Aside0.mk (blk_below (g := gb458) (o := .cells #[.int .i64 a0_0, .slice A0_1 l0_1.length c0_1, .int .i64 a0_2] 24 (0, 0)) (by (with_reducible repeat (first | refine blk_drewN ?_ _ | refine blk_drew ?_ | refine blk_alloc ?_ _)); exact BK458.out) hb); have n2_ := Aside0.mk (below_step (by repeat (first | (with_reducible first | exact HB.out | apply below_alloc | apply pw_below_drewN | apply below_drew1 | refine below_set ?_ GE458.out) | exact HB.out)) hb); clear BK458; clear HB; have HO462 := n0_; have BK458 := n1_; have HB := n2_; clear n0_ n1_ n2_; (try clear hb); (try clear hb2); (try clear hk); (try clear hi); (try clear ho0)))
  go_ret2
  exact ⟨by first | rfl | (simp [errW_none, errW_some] <;> rfl) | (simp [*, errW_none, errW_some] <;> rfl), by repeat (first | (with_reducible first | exact HB.out | apply below_alloc | apply pw_below_drewN | apply below_drew1 | refine below_set ?_ GE458.out) | exact HB.out)⟩
end Go.Proofs.YtooogaogbffjfaaDoor.PB
end
section
set_option linter.unusedVariables false
set_option linter.unusedSimpArgs false
namespace Go.Proofs.YtooogaogbffjfaaDoor.Ext
set_option maxRecDepth 100000
open Go.RowKit Go.Proofs.YtooogaogbffjfaaDoorW.PrintWords Go.Proofs.YtooogaogbffjfaaDoorW.PrintLast Go.Proofs.YtooogaogbffjfaaDoorW.PrintMore Go.Proofs.YtooogaogbffjfaaDoor.Bk Go.Proofs.YtooogaogbffjfaaDoor.PB Go.Proofs.YtooogaogbffjfaaDoor.RefSpec
theorem encF_yes {p : S27} (h : okP p = true) : encF p = (txt p, 0) := by unfold encF; rw [h]; rfl
theorem encF_no {p : S27} (h : okP p = false) : encF p = (⟨#[]⟩, 240) := by unfold encF; rw [h]; rfl
theorem take_rd27 (ps : List S27) (i : Nat) (h : i < ps.length) : ps.take (i + 1) = ps.take i ++ [rd_T27 ps (i : Int)] := by
  have hrd : rd_T27 ps (i : Int) = ps[i] := by unfold rd_T27; rw [Int.toNat_natCast, List.getD_eq_getElem?_getD, List.getElem?_eq_getElem h]; rfl
  rw [List.take_add_one, List.getElem?_eq_getElem h, hrd]
  rfl
theorem encoded_l0 (ps : List S27) (hn : ps.length ≤ 1000000) : ∀ (d i k : Nat), ps.length - i = d → i ≤ ps.length → d < k → (ps.take i).all okP = true →
    aircheckref24_Encoded.l0 k ps ((ps.take i).map txt) (i : Int) = some (if ps.all okP then (ps.map txt, true) else ([], false)) := by
  intro d
  induction d with
  | zero =>
    intro i k hd hi hk ho
    obtain ⟨k, rfl⟩ : ∃ q, k = q + 1 := ⟨k - 1, by omega⟩
    have hf : ps.take i = ps := List.take_of_length_le (by omega)
    rw [hf] at ho ⊢
    rw [aircheckref24_Encoded.l0, if_neg (by omega), ho]
    rfl
  | succ d ih =>
    intro i k hd hi hk ho
    obtain ⟨k, rfl⟩ : ∃ q, k = q + 1 := ⟨k - 1, by omega⟩
    have hlt : i < ps.length := by omega
    have ht := take_rd27 ps i hlt
    rw [aircheckref24_Encoded.l0, if_pos (by omega), if_pos (by omega)]
    show ((some (encF (rd_T27 ps (i : Int)))).bind fun bt427 : ByteArray × Int => _) = _
    rw [Option.bind_some]
    cases hp : okP (rd_T27 ps (i : Int)) with
    | true =>
      rw [encF_yes hp, if_pos rfl, if_pos (by simp; omega), DigSpec.w64 (by omega) (by omega)]
      have := ih (i + 1) k (by omega) (by omega) (by omega) (by rw [ht, List.all_append, ho, List.all_cons, hp]; rfl)
      rw [ht, List.map_append] at this
      exact this
    | false =>
      rw [encF_no hp, if_neg (by decide)]
      have : ps.all okP = false := by
        rw [← List.take_append_drop (i + 1) ps, List.all_append, ht, List.all_append, List.all_cons, hp]
        simp
      rw [this]
      rfl
theorem encoded_is (k : Nat) (ps : List S27) (hn : ps.length ≤ 1000000) (hk : ps.length < k) : aircheckref24_Encoded.f k ps = some (if ps.all okP then (ps.map txt, true) else ([], false)) :=
  encoded_l0 ps hn ps.length 0 k (by omega) (by omega) hk rfl
theorem chain_is (k : Nat) (a b : ByteArray) (ha : a.size = 32) (hb : b.size ≤ 63) (hk : 700 ≤ k) : aircheckref02_Chain.f k a b = some (hash (pre2 a b)) := by
  unfold aircheckref02_Chain.f
  have h1 : ((⟨#[2]⟩ : ByteArray) ++ a).size = 33 := by rw [ByteArray.size_append, ha]; rfl
  rw [if_pos (by omega), if_pos (by rw [h1]; omega), pre2_assoc, refsum_is _ (by rw [pre2_size]; omega) k (by rw [pre2_size]; omega)]
  rfl
theorem rhead_l0 (R : List ByteArray) (hn : R.length ≤ 1000000) (hs : ∀ x ∈ R, x.size ≤ 63) : ∀ (d i k : Nat), R.length - i = d → i ≤ R.length → d + 700 < k →
    aircheckref02_Head.l0 k R (hdR (R.take i).reverse) (i : Int) = some (hdR R.reverse) := by
  intro d
  induction d with
  | zero =>
    intro i k hd hi hk
    obtain ⟨k, rfl⟩ : ∃ q, k = q + 1 := ⟨k - 1, by omega⟩
    have hf : R.take i = R := List.take_of_length_le (by omega)
    rw [hf, aircheckref02_Head.l0, if_neg (by omega)]
  | succ d ih =>
    intro i k hd hi hk
    obtain ⟨k, rfl⟩ : ∃ q, k = q + 1 := ⟨k - 1, by omega⟩
    have hlt : i < R.length := by omega
    have hrd : rdOf ByteArray.empty R (i : Int) = R[i] := by unfold rdOf; rw [Int.toNat_natCast, List.getD_eq_getElem?_getD, List.getElem?_eq_getElem hlt]; rfl
    have ht : R.take (i + 1) = R.take i ++ [R[i]] := by rw [List.take_add_one, List.getElem?_eq_getElem hlt]; rfl
    rw [aircheckref02_Head.l0, if_pos (by omega), if_pos (by omega), hrd, chain_is k _ _ (hdR_size _) (hs _ (List.getElem_mem hlt)) (by omega), Option.bind_some, DigSpec.w64 (by omega) (by omega)]
    have := ih (i + 1) k (by omega) (by omega) (by omega)
    rw [ht, List.reverse_append] at this
    exact this
theorem rhead_is (k : Nat) (R : List ByteArray) (hn : R.length ≤ 1000000) (hs : ∀ x ∈ R, x.size ≤ 63) (hk : R.length + 700 < k) : aircheckref02_Head.f k R = some (hdR R.reverse) := by
  unfold aircheckref02_Head.f
  rw [if_pos (by decide)]
  exact rhead_l0 R hn hs R.length 0 k (by omega) (by omega) hk
theorem txts_size {ps : List S27} (h : ∀ p ∈ ps, okP p = true) : ∀ x ∈ ps.map txt, x.size ≤ 63 := by
  intro x hx
  obtain ⟨p, hp, rfl⟩ := List.mem_map.1 hx
  exact txt_size p (h p hp)
theorem refHead_is (k : Nat) (acc clo : Int) (ps : List S27) (hk : ps.length + 2000 ≤ k) (hn : ps.length ≤ 1000000) : aircheckref24_Head.f k acc ps clo = some (headF acc clo ps) := by
  unfold aircheckref24_Head.f headF
  rw [encoded_is k ps hn (by omega), Option.bind_some]
  cases hv : validB acc ps clo with
  | true =>
    have hok := valid_ok hv
    have : ps.all okP = true := List.all_eq_true.2 hok
    rw [this, if_pos rfl, if_pos rfl]
    show ((some (validB acc ps clo)).bind fun t463 : Bool => _) = _
    rw [Option.bind_some, hv, if_pos rfl, rhead_is k _ (by simpa using hn) (txts_size hok) (by simp; omega)]
    rfl
  | false =>
    cases hall : ps.all okP with
    | true =>
      rw [if_pos rfl, if_pos rfl]
      show ((some (validB acc ps clo)).bind fun t463 : Bool => _) = _
      rw [Option.bind_some, hv]
      rfl
    | false => rfl
end Go.Proofs.YtooogaogbffjfaaDoor.Ext
end
section
set_option linter.unusedVariables false
set_option linter.unusedSimpArgs false
namespace Go.Proofs.YtooogaogbffjfaaDoor.Ext
set_option maxRecDepth 100000
open Go.RowKit Go.Proofs.YtooogaogbffjfaaDoorW.PrintWords Go.Proofs.YtooogaogbffjfaaDoorW.PrintLast Go.Proofs.YtooogaogbffjfaaDoorW.PrintMore Go.Proofs.YtooogaogbffjfaaDoor.Bk Go.Proofs.YtooogaogbffjfaaDoor.PB
theorem made_walk2 (a0 : Int) (A1 : Option Addr) (n1 c1 : Nat) (l1 : List S67) (hl1 : l1.length = n1) (n : Nat) (ps : List S27) (clo : Int) (hm : aircheckref24_Made.f a0 l1 = some ((n : Int), ps, clo)) (w : World) (hr1 : Kd.C k67 w A1 n1 l1) (hc1 : n1 ≤ c1) :
    Calls Tryd.prog 8 #[.int .i64 a0, .slice A1 n1 c1] w fun e w' => ∃ (A : Option Addr) (c nn : Nat), ps.length = nn ∧ e = .returned (.agg #[.int .i64 (n : Int), .slice A nn c, .int .i64 clo]) ∧ Kd.R k27 27 w' w.heap.size (fun _ => True) (.slice A nn c) ps ∧ Below w.heap.size w w' := by
  subst hl1
  refine (aircheckref24_Made.calls a0 A1 c1 l1 n ps clo w hr1 hc1 hm).mono ?_
  rintro e w' ⟨v, he, hR, hb⟩
  obtain ⟨A', c', rfl⟩ := Kd.R_slice hR
  exact ⟨A', c', _, rfl, he, hR, hb⟩
theorem made_len2 (a : Int) (l : List S67) : (madeF a l).2.1.length ≤ 48 := by
  have h := (run_ok (accM a) (accM_bound a) (l.take 24)).2.1
  rw [List.length_take] at h
  have : (madeF a l).2.1 = (runM (accM a) (l.take 24)).1 := rfl
  rw [this]
  omega
theorem hHead (acc clo : Int) (A : Option Addr) (n c : Nat) (ps : List S27) (hl : ps.length = n) (r1 : ByteArray) (r2 : Int) (hr : headF acc clo ps = (r1, r2)) (w : World) (hG : GL w) (hC : Kd.C k27 w A n ps) (hn : n ≤ 1000000) :
    Calls Tryd.prog 9 #[.agg #[.int .i64 acc, .slice A n c, .int .i64 clo]] w fun e w' => e = .returned (.tuple #[.string r1, .int .i64 r2]) ∧ Below w.heap.size w w' := by
  subst hl
  have := head_walk acc clo A c ps w hG hC hn
  rw [hr] at this
  exact this
theorem rHead (acc clo : Int) (A : Option Addr) (n c : Nat) (ps : List S27) (hl : ps.length = n) (r1 : ByteArray) (r2 : Int) (hr : headF acc clo ps = (r1, r2)) (w : World) (hC : Kd.C k27 w A n ps) (hc : n ≤ c) (hn : n ≤ 1000000) :
    Calls Tryd.prog 10 #[.agg #[.int .i64 acc, .slice A n c, .int .i64 clo]] w fun e w' => e = .returned (.tuple #[.string r1, .int .i64 r2]) ∧ Below w.heap.size w w' := by
  subst hl
  exact aircheckref24_Head.calls (ps.length + 2000) acc A c ps clo r1 r2 w hC hc (by rw [refHead_is _ _ _ _ (Nat.le_refl _) hn, hr])
theorem hEnc (p : S27) (r1 : ByteArray) (r2 : Int) (hr : encF p = (r1, r2)) (w : World) : Calls Tryd.prog 6 #[.agg #[.int .i64 p.f0, .int .i64 p.f1, .int .i64 p.f2, .int .i64 p.f3, .int .i64 p.f4, .int .i64 p.f5, .int .i64 p.f6]] w fun e w' => e = .returned (.tuple #[.string r1, .int .i64 r2]) ∧ Below w.heap.size w w' := by
  have := encode_walk p w
  rw [hr] at this
  exact this
theorem rEnc (p : S27) (r1 : ByteArray) (r2 : Int) (hr : encF p = (r1, r2)) (w : World) : Calls Tryd.prog 7 #[.agg #[.int .i64 p.f0, .int .i64 p.f1, .int .i64 p.f2, .int .i64 p.f3, .int .i64 p.f4, .int .i64 p.f5, .int .i64 p.f6]] w fun e w' => e = .returned (.tuple #[.string r1, .int .i64 r2]) ∧ Below w.heap.size w w' := by
  have := rencode_walk p w
  rw [hr] at this
  exact this
end Go.Proofs.YtooogaogbffjfaaDoor.Ext
end
section
set_option linter.unusedVariables false
set_option linter.unusedSimpArgs false
namespace Go.Proofs.YtooogaogbffjfaaDoor.Ext
set_option maxRecDepth 100000
open Go.RowKit Go.Shelf Go.Proofs.YtooogaogbffjfaaDoorW.PrintWords Go.Proofs.YtooogaogbffjfaaDoorW.PrintLast Go.Proofs.YtooogaogbffjfaaDoorW.PrintMore Go.Proofs.YtooogaogbffjfaaDoor.PK Go.Proofs.YtooogaogbffjfaaDoor.Bk Go.Proofs.YtooogaogbffjfaaDoor.PB Go.Proofs.YtooogaogbffjfaaDoor.Pure
attribute [local go_sem] Oper.semAt_some max2_int min2_int max_two min_two
set_option maxHeartbeats 4000000 in
theorem hmLaw_walk (acc0 clo0 : Int) (A0 : Option Addr) (n0 c0 : Nat) (l0 : List S27) (hl0 : l0.length = n0) (a1 : Int) (A2 : Option Addr) (n2 c2 : Nat) (l2 : List S67) (hl2 : l2.length = n2) (p : S27) (N1 : Nat) (ps1 : List S27) (clo1 : Int) (hm : aircheckref24_Made.f a1 l2 = some ((N1 : Int), ps1, clo1)) (hlen : ps1.length ≤ 48) (w : World) (hG : GL w) (hr0 : Kd.C k27 w A0 n0 l0) (hc0 : n0 ≤ c0) (hr2 : Kd.C k67 w A2 n2 l2) (hc2 : n2 ≤ c2) :
    Calls Tryd.prog 3 #[.agg #[.int .i64 acc0, .slice A0 n0 c0, .int .i64 clo0], .int .i64 a1, .slice A2 n2 c2, .agg #[.int .i64 p.f0, .int .i64 p.f1, .int .i64 p.f2, .int .i64 p.f3, .int .i64 p.f4, .int .i64 p.f5, .int .i64 p.f6]] w fun e w' => e = .returned (.bool true) ∧ Below w.heap.size w w' := by
  have HGL := Lib.hid hG
  have HM := Lib.hid hm
  have HR0 := Lib.hid hr0
  have HR2 := Lib.hid hr2
  have HLE := Lib.hid hlen
  have HL0 := Lib.hid hl0
  have HL2 := Lib.hid hl2
  clear hm hr0 hr2 hlen hl0 hl2 hG
  obtain ⟨m, hm0⟩ : ∃ m : Nat, (if (8 : Int) < (n0 : Int) then (8 : Int) else (n0 : Int)) = (m : Int) := by
    by_cases h : (8 : Int) < (n0 : Int)
    · exact ⟨8, if_pos h⟩
    · exact ⟨n0, if_neg h⟩
  have hm8 : m ≤ 8 ∧ m ≤ n0 := by split at hm0 <;> omega
  have hms : (n0 : Int) ≤ 9223372036854775807 := by have := Kd.C_max HR0.out; omega
  go_enter Tryd.func3, Tryd.ntmps3
  go_upto_region 2 with (first | (go_at_call 5; (with_reducible refine (airchecklaw24_sane.calls true _ rfl).mono ?_); rintro e w2 ⟨rfl, hb2⟩) | fail)
  have hsz : (w.alloc (.cells #[.int .i64 acc0, .slice A0 n0 c0, .int .i64 clo0] 24)).heap.size = w.heap.size + 1 := by simp
  have hB0 : Blk ((w.alloc (.cells #[.int .i64 acc0, .slice A0 n0 c0, .int .i64 clo0] 24)).alloc (.cells #[.int .i64 p.f0, .int .i64 p.f1, .int .i64 p.f2, .int .i64 p.f3, .int .i64 p.f4, .int .i64 p.f5, .int .i64 p.f6] 27)) w.heap.size 24 [.int .i64 acc0, .slice A0 n0 c0, .int .i64 clo0] := (Blk.newA w _ _ _ rfl).alloc _
  have hP0 : Blk ((w.alloc (.cells #[.int .i64 acc0, .slice A0 n0 c0, .int .i64 clo0] 24)).alloc (.cells #[.int .i64 p.f0, .int .i64 p.f1, .int .i64 p.f2, .int .i64 p.f3, .int .i64 p.f4, .int .i64 p.f5, .int .i64 p.f6] 27)) (w.heap.size + 1) 27 (pcells p) := by have h := Blk.new (w.alloc (.cells #[.int .i64 acc0, .slice A0 n0 c0, .int .i64 clo0] 24)) 27 (pcells p); rw [hsz] at h; exact h
  have hb1 : Below w.heap.size w ((w.alloc (.cells #[.int .i64 acc0, .slice A0 n0 c0, .int .i64 clo0] 24)).alloc (.cells #[.int .i64 p.f0, .int .i64 p.f1, .int .i64 p.f2, .int .i64 p.f3, .int .i64 p.f4, .int .i64 p.f5, .int .i64 p.f6] 27)) := ((Below.refl _ _).alloc (Nat.le_refl _) _).alloc (by simp) _
  have HB0 := Lib.hid (hB0.belowS hb2)
  have HP := Lib.hid (hP0.belowS hb2)
  have HBW := Lib.hid (Below.trans hb1 (hb2.mono hb1.size))
  clear hsz hB0 hP0 hb1 hb2
  have x0 := HB0.out.cell (j := 0) rfl
  have x1 := HB0.out.cell (j := 1) rfl
  have x2 := HB0.out.cell (j := 2) rfl
  have f1 := HB0.out.free 1
  have hmc : (m : Int) ≤ (c0 : Int) := by omega
  have hmn : (m : Int) ≤ (n0 : Int) := by omega
  go_upto_region 3 with (fail)
  have hB2 : Blk (w2.setCell ⟨w.heap.size, 1, none⟩ (.slice A0 m c0)) w.heap.size 24 [.int .i64 acc0, .slice A0 m c0, .int .i64 clo0] := HB0.out.set 1 _
  have hP2 := HP.out.set_other ⟨w.heap.size, 1, none⟩ (by show w.heap.size + 1 ≠ w.heap.size; omega) (.slice A0 m c0)
  have hb2 : Below w.heap.size w (w2.setCell ⟨w.heap.size, 1, none⟩ (.slice A0 m c0)) := HBW.out.setCell (p := ⟨w.heap.size, 1, none⟩) (Nat.le_refl _) _
  clear x0 x1 x2 f1 hmc hmn hms hm0 HB0 HP HBW
  generalize w2.setCell ⟨w.heap.size, 1, none⟩ (.slice A0 m c0) = w3 at *
  have HP := Lib.hid hP2
  have HBW := Lib.hid hb2
  have HB0 := Lib.hid hB2
  clear hP2 hb2 hB2 w2
  have p0 := HP.out.cell (j := 0) rfl
  have p1 := HP.out.cell (j := 1) rfl
  have p2 := HP.out.cell (j := 2) rfl
  have p3 := HP.out.cell (j := 3) rfl
  have p4 := HP.out.cell (j := 4) rfl
  have p5 := HP.out.cell (j := 5) rfl
  have p6 := HP.out.cell (j := 6) rfl
  obtain ⟨s1, e1, hse⟩ : ∃ s e, encF p = (s, e) := ⟨_, _, rfl⟩
  have HSE := Lib.hid hse
  clear hse
  go_upto_region 7 with (first | (go_at_call 6; (with_reducible refine (hEnc p s1 e1 HSE.out _).mono ?_); rintro e v1 ⟨rfl, hv1⟩; have p0 := keepB hv1 p0; have p1 := keepB hv1 p1; have p2 := keepB hv1 p2; have p3 := keepB hv1 p3; have p4 := keepB hv1 p4; have p5 := keepB hv1 p5; have p6 := keepB hv1 p6) | (go_at_call 7; (with_reducible refine (rEnc p s1 e1 HSE.out _).mono ?_); rintro e v2 ⟨rfl, hv2⟩) | fail)
  have hv12 := Below.trans hv1 (hv2.mono hv1.size)
  replace HB0 := Lib.hid (HB0.out.belowS hv12)
  replace HP := Lib.hid (HP.out.belowS hv12)
  replace HBW := Lib.hid (Below.trans HBW.out (hv12.mono HBW.out.size))
  clear p0 p1 p2 p3 p4 p5 p6 hv12 hv1 hv2
  have x0 := HB0.out.cell (j := 0) rfl
  have x1 := HB0.out.cell (j := 1) rfl
  have x2 := HB0.out.cell (j := 2) rfl
  have hS : v2.drew.cell? ⟨w.heap.size, 0, none⟩ = some (.int .i64 acc0) ∧ v2.drew.cell? ⟨w.heap.size, 1, none⟩ = some (.slice A0 m c0) ∧ v2.drew.cell? ⟨w.heap.size, 2, none⟩ = some (.int .i64 clo0) := ⟨x0, x1, x2⟩
  go_region_held3 (fun w' => w'.cell? ⟨w.heap.size, 0, none⟩ = some (.int .i64 acc0) ∧ w'.cell? ⟨w.heap.size, 1, none⟩ = some (.slice A0 m c0) ∧ w'.cell? ⟨w.heap.size, 2, none⟩ = some (.int .i64 clo0)) (first | (with_reducible exact hS) | (with_reducible exact hk) | (with_reducible exact ⟨keepB ((Below.refl _ _).alloc (Nat.le_refl _) _) hk.1, keepB ((Below.refl _ _).alloc (Nat.le_refl _) _) hk.2.1, keepB ((Below.refl _ _).alloc (Nat.le_refl _) _) hk.2.2⟩) | fail) (first | (go_at_call 8; (refine (made_walk2 a1 A2 n2 c2 l2 HL2.out N1 ps1 clo1 HM.out _ (Kd.C_below HR2.out (below_dN HBW.out _)) hc2).mono ?_); rintro e w4 ⟨A, c, nn, hnn, rfl, hR4, hb4⟩; have hk := And.intro (keepB hb4 x0) (And.intro (keepB hb4 x1) (keepB hb4 x2))) | fail)
  rename_i hHeld_
  clear hHeld_ hk hS x0 x1 x2 HB0
  have hb4n : Below v2.heap.size v2 w4 := Below.trans (below_dN (Below.refl _ _) 1) hb4
  replace hb4 := hb4n
  clear hb4n
  have hba : Below w4.heap.size w4 (w4.alloc (.cells #[.int .i64 acc0, .slice A0 m c0, .int .i64 clo0, .int .i64 (N1 : Int), .slice A nn c, .int .i64 clo1] 24)) := (Below.refl _ _).alloc (Nat.le_refl _) _
  have hb5 : Below v2.heap.size v2 (w4.alloc (.cells #[.int .i64 acc0, .slice A0 m c0, .int .i64 clo0, .int .i64 (N1 : Int), .slice A nn c, .int .i64 clo1] 24)) := Below.trans hb4 (hba.mono hb4.size)
  have hR5 := (Kd.R_reads' hR4).2
  rw [hnn] at hR5
  have hcA := hR5.1
  have HC1 := Lib.hid (Kd.C_below hR5.2 hba)
  have HBW5 := Lib.hid (Below.trans HBW.out (hb5.mono HBW.out.size))
  have HC0 : Hid (Kd.C k27 (w4.alloc (.cells #[.int .i64 acc0, .slice A0 m c0, .int .i64 clo0, .int .i64 (N1 : Int), .slice A nn c, .int .i64 clo1] 24)) A0 m (l0.take m)) := Lib.hid (by
    have h := Kd.C_below HR0.out HBW5.out
    have hln := HL0.out
    subst hln
    have h2 := Kd.C_take h hm8.2
    rwa [List.length_take, Nat.min_eq_left hm8.2] at h2)
  have HP5 := Lib.hid (HP.out.belowS hb5)
  have HA := Lib.hid (Blk.newA w4 24 #[.int .i64 acc0, .slice A0 m c0, .int .i64 clo0, .int .i64 (N1 : Int), .slice A nn c, .int .i64 clo1] [.int .i64 acc0, .slice A0 m c0, .int .i64 clo0, .int .i64 (N1 : Int), .slice A nn c, .int .i64 clo1] rfl)
  have HN1 := Lib.hid hnn
  have HLT : Hid ((l0.take m).length = m) := Lib.hid (by rw [List.length_take, Nat.min_eq_left]; have := HL0.out; omega)
  have HNE : Hid (w.heap.size < w4.heap.size) := Lib.hid (by have := HP.out.lt; have := hb4.size; omega)
  clear hb4 hb5 hba hR4 hR5 hnn HP HBW HR2 HR0 HM
  generalize w4.alloc (.cells #[.int .i64 acc0, .slice A0 m c0, .int .i64 clo0, .int .i64 (N1 : Int), .slice A nn c, .int .i64 clo1] 24) = W at *
  generalize w4.heap.size = gA at *
  clear w4
  obtain ⟨gp, hgp⟩ : ∃ gp, w.heap.size + 1 = gp := ⟨_, rfl⟩
  rw [hgp] at HP5 ⊢
  obtain ⟨adA, hadA⟩ : ∃ ad : Addr, (⟨gA, 0, none⟩ : Addr) = ad := ⟨_, rfl⟩
  rw [hadA]
  have HAD := Lib.hid hadA
  have HGP := Lib.hid hgp
  clear hadA hgp
  go_wp2
  go_loopw [53] (fun v wr => ∃ k : Nat, k ≤ 2 ∧ v = .int .i64 (k : Int) ∧ Below W.heap.size W wr) (fun v wr => 2 - (intOf v).toNat)
  case atStart => exact ⟨0, by omega, rfl, Below.refl _ _⟩
  case round =>
    obtain ⟨k, hk, rfl, hbel⟩ := hrel
    by_cases hlt : k < 2
    · have hki : (k : Int) < 2 := by omega
      obtain ⟨acc, B, nb, cb, clo, ps, e0, e1, e2, HC, HL, hcb, hnb⟩ : ∃ (acc : Int) (B : Option Addr) (nb cb : Nat) (clo : Int) (ps : List S27), wr.cell? (adA.add (k * 3)) = some (.int .i64 acc) ∧ wr.cell? ⟨(adA.add (k * 3)).block, (adA.add (k * 3)).off + 1, none⟩ = some (.slice B nb cb) ∧ wr.cell? ⟨(adA.add (k * 3)).block, (adA.add (k * 3)).off + 2, none⟩ = some (.int .i64 clo) ∧ Hid (Kd.C k27 wr B nb ps) ∧ Hid (ps.length = nb) ∧ nb ≤ cb ∧ nb ≤ 48 := by
        rw [← HAD.out]
        have hA := HA.out.belowS hbel
        rcases (show k = 0 ∨ k = 1 by omega) with rfl | rfl
        · exact ⟨acc0, A0, m, c0, clo0, l0.take m, hA.cell (j := 0) rfl, hA.cell (j := 1) rfl, hA.cell (j := 2) rfl, Lib.hid (Kd.C_below HC0.out hbel), HLT, by omega, by omega⟩
        · exact ⟨(N1 : Int), A, nn, c, clo1, ps1, hA.cell (j := 3) rfl, hA.cell (j := 4) rfl, hA.cell (j := 5) rfl, Lib.hid (Kd.C_below HC1.out hbel), HN1, hcA, by have := HLE.out; have := HN1.out; omega⟩
      have HBEL := Lib.hid hbel
      clear hbel hlt
      go_upto_region 10 with (fail)
      clear e0 e1 e2
      have hba : Below wr.heap.size wr (wr.alloc (.cells #[.int .i64 acc, .slice B nb cb, .int .i64 clo] 24)) := (Below.refl _ _).alloc (Nat.le_refl _) _
      have HB := Lib.hid (Blk.newA wr 24 #[.int .i64 acc, .slice B nb cb, .int .i64 clo] [.int .i64 acc, .slice B nb cb, .int .i64 clo] rfl)
      replace HC := Lib.hid (Kd.C_below HC.out hba)
      have HLOW := Lib.hid (Below.trans HBEL.out (hba.mono HBEL.out.size))
      clear hba HBEL
      generalize wr.alloc (.cells #[.int .i64 acc, .slice B nb cb, .int .i64 clo] 24) = v0 at *
      have x0 := HB.out.cell (j := 0) rfl
      have x1 := HB.out.cell (j := 1) rfl
      have x2 := HB.out.cell (j := 2) rfl
      obtain ⟨s3, e3, hse⟩ : ∃ s e, headF acc clo ps = (s, e) := ⟨_, _, rfl⟩
      have HHF := Lib.hid hse
      have HGV := Lib.hid (HGL.out.below (Below.trans HBW5.out (HLOW.out.mono HBW5.out.size)))
      clear hse
      go_wp2_with (first | (go_at_call 9; (with_reducible refine (hHead acc clo B nb cb ps HL.out s3 e3 HHF.out _ HGV.out HC.out (by omega)).mono ?_); rintro e u1 ⟨rfl, hu1⟩; have x0 := keepB hu1 x0; have x1 := keepB hu1 x1; have x2 := keepB hu1 x2) | (go_at_call 10; (with_reducible refine (rHead acc clo B nb cb ps HL.out s3 e3 HHF.out _ (Kd.C_below HC.out hu1) hcb (by omega)).mono ?_); rintro e u2 ⟨rfl, hu2⟩) | fail)
      go_roundw
      case rel =>
        have hu := Below.trans hu1 (hu2.mono hu1.size)
        exact ⟨k + 1, by omega, by go_num, Below.trans HLOW.out (hu.mono HLOW.out.size)⟩
      case measure => simp [intOf]; omega
    · obtain rfl : k = 2 := by omega
      have HBEL := Lib.hid hbel
      clear hbel hlt
      go_wp2
      go_ret
      exact ⟨rfl, Below.trans HBW5.out (HBEL.out.mono HBW5.out.size)⟩
end Go.Proofs.YtooogaogbffjfaaDoor.Ext
end
section
set_option linter.unusedVariables false
set_option linter.unusedSimpArgs false
namespace Go.Proofs.YtooogaogbffjfaaDoor.PH
set_option maxRecDepth 100000
open Go.RowKit Go.Proofs.YtooogaogbffjfaaDoorW.PrintWords Go.Proofs.YtooogaogbffjfaaDoorW.PrintLast Go.Proofs.YtooogaogbffjfaaDoorW.PrintMore Go.Proofs.YtooogaogbffjfaaDoor.PK Go.Proofs.YtooogaogbffjfaaDoor.Ext Go.Proofs.YtooogaogbffjfaaDoor.Bk Go.Proofs.YtooogaogbffjfaaDoor.Pure
def airchecklaw24_BookHeadsMatchReference.f (k : Nat) (acc0 : Int) (l0 : List S27) (clo0 : Int) (a1 : Int) (l2 : List S67) (p : S27) : Option Bool := if I64 a1 ∧ ∀ x ∈ l2, I64x x then some true else none
theorem airchecklaw24_BookHeadsMatchReference.calls (k : Nat) (acc0 : Int) (A0 : Option Addr) (c0 : Nat) (l0 : List S27) (clo0 : Int) (a1 : Int) (A2 : Option Addr) (c2 : Nat) (l2 : List S67) (p : S27) (r : Bool) (w : World) (hr0 : Kd.C k27 w A0 l0.length l0) (hc0 : l0.length ≤ c0) (hr2 : Kd.C k67 w A2 l2.length l2) (hc2 : l2.length ≤ c2) (hG : GL w) (h : airchecklaw24_BookHeadsMatchReference.f k acc0 l0 clo0 a1 l2 p = some r) :
    Calls Tryd.prog 3 #[.agg #[.int .i64 acc0, .slice A0 l0.length c0, .int .i64 clo0], .int .i64 a1, .slice A2 l2.length c2, .agg #[.int .i64 p.f0, .int .i64 p.f1, .int .i64 p.f2, .int .i64 p.f3, .int .i64 p.f4, .int .i64 p.f5, .int .i64 p.f6]] w fun e w' => e = .returned (.bool r) ∧ Below w.heap.size w w' := by
  unfold airchecklaw24_BookHeadsMatchReference.f at h
  split at h
  · rename_i hc
    obtain rfl := Option.some.inj h
    have hb := accM_bound a1
    refine hmLaw_walk acc0 clo0 A0 l0.length c0 l0 rfl a1 A2 l2.length c2 l2 rfl p (accM a1).toNat (madeF a1 l2).2.1 (madeF a1 l2).2.2 ?_ (made_len2 a1 l2) w hG hr0 hc0 hr2 hc2
    unfold aircheckref24_Made.f
    rw [if_pos hc, show (((accM a1).toNat : Nat) : Int) = (madeF a1 l2).1 by show _ = accM a1; omega]
  · cases h
end Go.Proofs.YtooogaogbffjfaaDoor.PH
namespace Go.Proofs.YtooogaogbffjfaaDoor.Pure
open Go.RowKit Go.Proofs.YtooogaogbffjfaaDoorW.PrintWords Go.Proofs.YtooogaogbffjfaaDoorW.PrintLast Go.Proofs.YtooogaogbffjfaaDoorW.PrintMore Go.Proofs.YtooogaogbffjfaaDoor.PK Go.Proofs.YtooogaogbffjfaaDoor.Ext Go.Proofs.YtooogaogbffjfaaDoor.Bk
theorem BookHeadsMatchReference (acc0 : Int) (l0 : List S27) (clo0 a1 : Int) (l2 : List S67) (p : S27) (w1 : (Lit.int .i64 a1).wf = true) (w2 : ∀ x ∈ l2, W64 x.f0 ∧ W64 x.f1 ∧ W64 x.f2 ∧ W64 x.f3 ∧ W64 x.f4) (w3 : p.Wf) : ∃ k, PH.airchecklaw24_BookHeadsMatchReference.f k acc0 l0 clo0 a1 l2 p = some true :=
  ⟨0, by unfold PH.airchecklaw24_BookHeadsMatchReference.f; rw [if_pos ⟨i64_wf w1, i64x_wf w2⟩]⟩
end Go.Proofs.YtooogaogbffjfaaDoor.Pure
end
