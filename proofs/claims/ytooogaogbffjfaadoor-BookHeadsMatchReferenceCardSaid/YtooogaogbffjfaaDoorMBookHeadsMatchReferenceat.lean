import Derived.Test.YtooogaogbffjfaaDoorProg
import Derived.WalkKit
import Derived.Below
import Derived.Test.YtooogaogbffjfaaDoorRows
import Derived.LaidMore
import Derived.Lib.LaidTab
import Derived.MakeChecks
import Derived.Test.YtooogaogbffjfaaDoorMBookHeadsMatchReferenceac
import Derived.Laws.BitsAllLaws
/-
  Texts of this claim, one behind the other: what they prove stands above each.
-/
section
namespace Sha
def m32 : Nat := 4294967296
def rot (x n : Nat) : Nat := (x >>> n) ||| ((x <<< (32 - n)) % m32)
def kk : List Nat := [
  0x428a2f98, 0x71374491, 0xb5c0fbcf, 0xe9b5dba5, 0x3956c25b, 0x59f111f1, 0x923f82a4, 0xab1c5ed5,
  0xd807aa98, 0x12835b01, 0x243185be, 0x550c7dc3, 0x72be5d74, 0x80deb1fe, 0x9bdc06a7, 0xc19bf174,
  0xe49b69c1, 0xefbe4786, 0x0fc19dc6, 0x240ca1cc, 0x2de92c6f, 0x4a7484aa, 0x5cb0a9dc, 0x76f988da,
  0x983e5152, 0xa831c66d, 0xb00327c8, 0xbf597fc7, 0xc6e00bf3, 0xd5a79147, 0x06ca6351, 0x14292967,
  0x27b70a85, 0x2e1b2138, 0x4d2c6dfc, 0x53380d13, 0x650a7354, 0x766a0abb, 0x81c2c92e, 0x92722c85,
  0xa2bfe8a1, 0xa81a664b, 0xc24b8b70, 0xc76c51a3, 0xd192e819, 0xd6990624, 0xf40e3585, 0x106aa070,
  0x19a4c116, 0x1e376c08, 0x2748774c, 0x34b0bcb5, 0x391c0cb3, 0x4ed8aa4a, 0x5b9cca4f, 0x682e6ff3,
  0x748f82ee, 0x78a5636f, 0x84c87814, 0x8cc70208, 0x90befffa, 0xa4506ceb, 0xbef9a3f7, 0xc67178f2]
def words : Nat → List Nat → List Nat
  | 0, _ => []
  | n + 1, a :: b :: c :: d :: l => (((a <<< 24) ||| (b <<< 16)) ||| ((c <<< 8) ||| d)) :: words n l
  | _ + 1, _ => []
def more : Nat → List Nat → List Nat
  | 0, w => w
  | n + 1, w =>
    let p := w.getD 14 0
    let q := w.getD 1 0
    more n (((w.getD 15 0 + ((rot p 7 ^^^ rot p 18) ^^^ (p >>> 3)) + w.getD 6 0 + ((rot q 17 ^^^ rot q 19) ^^^ (q >>> 10))) % m32) :: w)
structure St where
  (a b c d e f g h : Nat)
  deriving DecidableEq
def rnd (s : St) (k w : Nat) : St :=
  let t := (s.h + ((rot s.e 6 ^^^ rot s.e 11) ^^^ rot s.e 25) + ((s.e &&& s.f) ^^^ ((m32 - 1 - s.e) &&& s.g)) + k + w) % m32
  let u := (((rot s.a 2 ^^^ rot s.a 13) ^^^ rot s.a 22) + (((s.a &&& s.b) ^^^ (s.a &&& s.c)) ^^^ (s.b &&& s.c))) % m32
  ⟨(t + u) % m32, s.a, s.b, s.c, (s.d + t) % m32, s.e, s.f, s.g⟩
def rounds : List Nat → List Nat → St → St
  | k :: ks, w :: ws, s => rounds ks ws (rnd s k w)
  | _, _, s => s
def block (s : St) (b : List Nat) : St :=
  let v := rounds kk (more 48 (words 16 b).reverse).reverse s
  ⟨(s.a + v.a) % m32, (s.b + v.b) % m32, (s.c + v.c) % m32, (s.d + v.d) % m32, (s.e + v.e) % m32, (s.f + v.f) % m32, (s.g + v.g) % m32, (s.h + v.h) % m32⟩
def init : St := ⟨0x6a09e667, 0xbb67ae85, 0x3c6ef372, 0xa54ff53a, 0x510e527f, 0x9b05688c, 0x1f83d9ab, 0x5be0cd19⟩
def pad (n : Nat) : List Nat := 128 :: (List.replicate ((119 - n % 64) % 64) 0 ++ [(8 * n) / 2^56 % 256, (8 * n) / 2^48 % 256, (8 * n) / 2^40 % 256, (8 * n) / 2^32 % 256, (8 * n) / 2^24 % 256, (8 * n) / 2^16 % 256, (8 * n) / 2^8 % 256, (8 * n) % 256])
def blocks : Nat → St → List Nat → St
  | 0, s, _ => s
  | n + 1, s, l => blocks n (block s (l.take 64)) (l.drop 64)
def be (x : Nat) : List Nat := [x >>> 24, (x >>> 16) % 256, (x >>> 8) % 256, x % 256]
def out (s : St) : List Nat := be s.a ++ be s.b ++ be s.c ++ be s.d ++ be s.e ++ be s.f ++ be s.g ++ be s.h
def sha (l : List Nat) : List Nat := let p := l ++ pad l.length; out (blocks (p.length / 64) init p)
set_option maxRecDepth 100000 in
example : sha [97, 98, 99] = [0xba,0x78,0x16,0xbf,0x8f,0x01,0xcf,0xea,0x41,0x41,0x40,0xde,0x5d,0xae,0x22,0x23,0xb0,0x03,0x61,0xa3,0x96,0x17,0x7a,0x9c,0xb4,0x10,0xff,0x61,0xf2,0x00,0x15,0xad] := by decide +kernel
end Sha
end
section
namespace Go.Proofs.YtooogaogbffjfaaDoor.Ext
set_option maxRecDepth 100000
open Go.RowKit
def GL (w : World) : Prop := ∀ i : Nat, i < 64 → w.cell? ⟨1, i, none⟩ = some (.int .u32 (Sha.kk.getD i 0 : Nat))
theorem GL.below {w w' : World} (h : GL w) (hb : Below w.heap.size w w') : GL w' := fun i hi => (hb.cell (World.block_lt_of_cell? w _ (h i hi))).trans (h i hi)
end Go.Proofs.YtooogaogbffjfaaDoor.Ext
end
section
namespace Go.Proofs.YtooogaogbffjfaaDoor.Ext
set_option maxRecDepth 100000
open Go.RowKit
theorem gN : Tryd.prog.globalNamed "aircheck/digest.round" = some 1 := by kernel_rfl
theorem gT : (Tryd.prog.globals[1]?).map (·.type) = some 127 := by kernel_rfl
theorem gl_of_laid {W : World} (h : laidMetH Tryd.prog [("aircheck/digest.round", Rows.laid_aircheck_digest_round)] W) : GL W := by
  rw [MakeChecks.laidMetH_plain _ _ _ (by kernel_rfl)] at h
  have hT := Lib.tabIs_of_head (zs := Sha.kk.map fun n : Nat => (n : Int)) gN gT Tryd.underlying127 Tryd.underlying77 (by kernel_rfl) (by kernel_rfl) h
  intro i hi
  have := hT.cell gN i (by simpa [Sha.kk] using hi)
  rw [this]
  congr 2
  have : i < Sha.kk.length := by simpa [Sha.kk] using hi
  simp [List.getD_eq_getElem?_getD, List.getElem?_eq_getElem this]
end Go.Proofs.YtooogaogbffjfaaDoor.Ext
end
section
set_option linter.unusedSimpArgs false
namespace Go.Proofs.YtooogaogbffjfaaDoor.ShaSpec
set_option maxRecDepth 100000
open Go.RowKit Go.Proofs.YtooogaogbffjfaaDoorW.PrintWords Go.Proofs.YtooogaogbffjfaaDoorW.PrintLast Go.Proofs.YtooogaogbffjfaaDoorW.PrintMore Go.Proofs.YtooogaogbffjfaaDoor.Ext Go.Proofs.YtooogaogbffjfaaDoor.PR
theorem rot_lt (x n : Nat) (hx : x < 4294967296) : Sha.rot x n < 4294967296 := by
  unfold Sha.rot Sha.m32
  exact Nat.or_lt_two_pow (n := 32) (Nat.lt_of_le_of_lt (Nat.shiftRight_le _ _) hx) (Nat.mod_lt _ (by decide))
theorem rotl (x n : Nat) (hx : x < 4294967296) (h0 : 0 < n) (hn : n < 32) : bits_RotateLeft32.f (x : Int) (wrap64 (-(n : Int))) = some ((Sha.rot x n : Nat) : Int) := by
  have e1 : wrap64 (-(n : Int)) = -(n : Int) := by unfold wrap64; omega
  have e2 : IntKind.u64.wrap (-(n : Int)) = ((18446744073709551616 - n : Nat) : Int) := by rw [IntKind.wrap_u64]; omega
  have e3 : Go.bits .and .u64 ((18446744073709551616 - n : Nat) : Int) 31 = ((32 - n : Nat) : Int) := by
    have := u64_and_nat (18446744073709551616 - n) 31 (by omega) (by decide)
    rw [show (31 : Nat) = 2 ^ 5 - 1 from rfl, Nat.and_two_pow_sub_one_eq_mod] at this
    rw [show (31 : Int) = ((2 ^ 5 - 1 : Nat) : Int) from rfl, this]
    congr 1
    omega
  have e4 : IntKind.u64.wrap (32 - ((32 - n : Nat) : Int)) = (n : Int) := by rw [IntKind.wrap_u64]; omega
  unfold bits_RotateLeft32.f
  rw [e1, e2, e3, e4, if_pos (by omega), if_pos (by omega)]
  have s1 : shl .u32 (x : Int) ((32 - n : Nat) : Int) = (((x <<< (32 - n)) % 4294967296 : Nat) : Int) := by
    unfold shl
    rw [show min ((32 - n : Nat) : Int).toNat IntKind.u32.bits = 32 - n by simp [IntKind.bits], show ((2 : Int) ^ (32 - n)) = ((2 ^ (32 - n) : Nat) : Int) by simp, ← Int.natCast_mul, IntKind.wrap_u32, Nat.shiftLeft_eq]
    omega
  have s2 : shr .u32 (x : Int) (n : Int) = ((x >>> n : Nat) : Int) := by
    unfold shr
    rw [show min ((n : Nat) : Int).toNat IntKind.u32.bits = n by simp [IntKind.bits]; omega, show ((2 : Int) ^ n) = ((2 ^ n : Nat) : Int) by simp, Nat.shiftRight_eq_div_pow]
    rfl
  rw [s1, s2, u32_or_nat _ _ (Nat.mod_lt _ (by decide)) (Nat.lt_of_le_of_lt (Nat.shiftRight_le _ _) hx), Nat.or_comm]
  rfl
theorem xor_lt {a b : Nat} (ha : a < 4294967296) (hb : b < 4294967296) : a ^^^ b < 4294967296 := Nat.xor_lt_two_pow (n := 32) ha hb
def mix (x : Nat) (l : List Nat) : Nat := l.foldl (fun a n => a ^^^ Sha.rot x n) 0
theorem mixed_loop (x : Nat) (hx : x < 4294967296) (l : List Nat) (hl : ∀ n ∈ l, 0 < n ∧ n < 32) (hlen : l.length < 1000) (m : Nat) : ∀ (i k a : Nat), i + m = l.length → m < k → a < 4294967296 →
    digest_mixed.l0 k (x : Int) (a : Int) (l.map fun n : Nat => (n : Int)) (l.length : Int) (i : Int) = some (((l.drop i).foldl (fun a n => a ^^^ Sha.rot x n) a : Nat) : Int) := by
  induction m with
  | zero =>
    intro i k a hi hk ha
    obtain ⟨k, rfl⟩ : ∃ q, k = q + 1 := ⟨k - 1, by omega⟩
    rw [digest_mixed.l0, if_neg (by omega), List.drop_of_length_le (by omega)]
    rfl
  | succ m ih =>
    intro i k a hi hk ha
    obtain ⟨k, rfl⟩ : ∃ q, k = q + 1 := ⟨k - 1, by omega⟩
    have hil : i < l.length := by omega
    have hrd : rd (l.map fun n : Nat => (n : Int)) (i : Int) = ((l[i] : Nat) : Int) := by
      unfold rd
      simp [List.getD_eq_getElem?_getD, hil]
    have hw : wrap64 ((i : Int) + 1) = ((i + 1 : Nat) : Int) := by unfold wrap64; omega
    have hb := hl _ (List.getElem_mem hil)
    rw [digest_mixed.l0, if_pos (by omega), if_pos (by omega), if_pos (by rw [List.length_map]; omega), hrd, rotl x _ hx hb.1 hb.2, Option.bind_some, u32_xor_nat _ _ ha (rot_lt _ _ hx), hw, ih (i + 1) k _ (by omega) (by omega) (xor_lt ha (rot_lt _ _ hx)), List.drop_eq_getElem_cons hil]
    rfl
theorem mixed_is (x : Nat) (hx : x < 4294967296) (l : List Nat) (hl : ∀ n ∈ l, 0 < n ∧ n < 32) (hlen : l.length < 1000) : digest_mixed.f (l.length + 1) (x : Int) (l.map fun n : Nat => (n : Int)) = some ((mix x l : Nat) : Int) := by
  unfold digest_mixed.f
  rw [List.length_map]
  exact mixed_loop x hx l hl hlen l.length 0 _ 0 (by omega) (by omega) (by decide)
end Go.Proofs.YtooogaogbffjfaaDoor.ShaSpec
end
section
set_option linter.unusedVariables false
set_option linter.unusedSimpArgs false
namespace Go.Proofs.YtooogaogbffjfaaDoor.Ext
set_option maxRecDepth 100000
open Go.RowKit
def word (a b c d : Nat) : Nat := ((a <<< 24 ||| b <<< 16) ||| c <<< 8) ||| d
def wordAt (bs : List Nat) (j : Nat) : Nat := word (bs.getD (4 * j) 0) (bs.getD (4 * j + 1) 0) (bs.getD (4 * j + 2) 0) (bs.getD (4 * j + 3) 0)
def first (bs : List Nat) (k : Nat) : List Nat := (List.range 64).map fun j => if j < k then wordAt bs j else 0
def next (p : List Nat) : Nat := (p.getD (p.length - 16) 0 + (ShaSpec.mix (p.getD (p.length - 15) 0) [7, 18] ^^^ (p.getD (p.length - 15) 0 >>> 3)) + p.getD (p.length - 7) 0 + (ShaSpec.mix (p.getD (p.length - 2) 0) [17, 19] ^^^ (p.getD (p.length - 2) 0 >>> 10))) % 4294967296
def grow (bs : List Nat) : Nat → List Nat
  | 0 => (List.range 16).map (wordAt bs)
  | m + 1 => grow bs m ++ [next (grow bs m)]
def arr (bs : List Nat) (m : Nat) : List Nat := grow bs m ++ List.replicate (48 - m) 0
theorem grow_len (bs : List Nat) (m : Nat) : (grow bs m).length = 16 + m := by
  induction m with
  | zero => simp [grow]
  | succ m ih => simp [grow, ih]; omega
theorem arr_len (bs : List Nat) (m : Nat) (h : m ≤ 48) : (arr bs m).length = 64 := by simp [arr, grow_len]; omega
theorem arr_at (bs : List Nat) (m j : Nat) (h : j < 16 + m) : (arr bs m).getD j 0 = (grow bs m).getD j 0 := by
  unfold arr
  rw [List.getD_eq_getElem?_getD, List.getD_eq_getElem?_getD, List.getElem?_append_left (by rw [grow_len]; exact h)]
theorem arr_set (bs : List Nat) (m : Nat) (h : m < 48) : (arr bs m).set (16 + m) (next (grow bs m)) = arr bs (m + 1) := by
  unfold arr
  rw [List.set_append_right _ _ (by rw [grow_len]; omega), grow_len, Nat.sub_self, show 48 - m = (48 - (m + 1)) + 1 by omega, List.replicate_succ, List.set_cons_zero]
  simp [grow]
theorem first_arr (bs : List Nat) : first bs 16 = arr bs 0 := by
  simp only [first, arr, grow]
  apply List.ext_getElem
  · simp
  · intro i h1 h2
    simp only [List.getElem_map, List.getElem_range, List.getElem_append, List.length_map, List.length_range]
    by_cases h : i < 16
    · simp [h]
    · rw [if_neg h, dif_neg h, List.getElem_replicate]
theorem or_lt {a b : Nat} (ha : a < 4294967296) (hb : b < 4294967296) : a ||| b < 4294967296 := Nat.or_lt_two_pow (n := 32) ha hb
theorem word_is (a b c d : Nat) (ha : a < 256) (hb : b < 256) (hc : c < 256) (hd : d < 256) :
    Go.bits .or .u32 (Go.bits .or .u32 (Go.bits .or .u32 (IntKind.u32.wrap (IntKind.u32.wrap (a : Int) * 16777216)) (IntKind.u32.wrap (IntKind.u32.wrap (b : Int) * 65536))) (IntKind.u32.wrap (IntKind.u32.wrap (c : Int) * 256))) (IntKind.u32.wrap (d : Int)) = ((word a b c d : Nat) : Int) := by
  have e0 : IntKind.u32.wrap (IntKind.u32.wrap (a : Int) * 16777216) = ((a * 16777216 : Nat) : Int) := by simp only [IntKind.wrap_u32]; omega
  have e1 : IntKind.u32.wrap (IntKind.u32.wrap (b : Int) * 65536) = ((b * 65536 : Nat) : Int) := by simp only [IntKind.wrap_u32]; omega
  have e2 : IntKind.u32.wrap (IntKind.u32.wrap (c : Int) * 256) = ((c * 256 : Nat) : Int) := by simp only [IntKind.wrap_u32]; omega
  have e3 : IntKind.u32.wrap (d : Int) = (d : Int) := by simp only [IntKind.wrap_u32]; omega
  rw [e0, e1, e2, e3, u32_or_nat _ _ (by omega) (by omega), u32_or_nat _ _ (or_lt (by omega) (by omega)) (by omega), u32_or_nat _ _ (or_lt (or_lt (by omega) (by omega)) (by omega)) (by omega)]
  simp [word, Nat.shiftLeft_eq]
theorem first_len (bs : List Nat) (k : Nat) : (first bs k).length = 64 := by simp [first]
theorem first_set (bs : List Nat) (k : Nat) (hk : k < 64) : (first bs k).set k (wordAt bs k) = first bs (k + 1) := by
  apply List.ext_getElem
  · simp [first]
  · intro i h1 h2
    rw [List.getElem_set]
    simp only [first, List.getElem_map, List.getElem_range]
    by_cases e : k = i
    · subst e; simp
    · rw [if_neg e]
      by_cases hi : i < k
      · rw [if_pos hi, if_pos (by omega)]
      · rw [if_neg hi, if_neg (by omega)]
theorem getD_rev (l : List Nat) (i : Nat) (h : i < l.length) : l.reverse.getD i 0 = l.getD (l.length - 1 - i) 0 := by
  rw [List.getD_eq_getElem?_getD, List.getD_eq_getElem?_getD, List.getElem?_reverse h]
theorem more_grow (bs : List Nat) (n : Nat) : ∀ m, Sha.more n (grow bs m).reverse = (grow bs (m + n)).reverse := by
  induction n with
  | zero => intro m; rfl
  | succ n ih =>
    intro m
    have hl := grow_len bs m
    simp only [Sha.more]
    rw [getD_rev _ 14 (by omega), getD_rev _ 1 (by omega), getD_rev _ 15 (by omega), getD_rev _ 6 (by omega)]
    have hn : (((grow bs m).getD ((grow bs m).length - 1 - 15) 0 + ((Sha.rot ((grow bs m).getD ((grow bs m).length - 1 - 14) 0) 7 ^^^ Sha.rot ((grow bs m).getD ((grow bs m).length - 1 - 14) 0) 18) ^^^ ((grow bs m).getD ((grow bs m).length - 1 - 14) 0 >>> 3)) + (grow bs m).getD ((grow bs m).length - 1 - 6) 0 + ((Sha.rot ((grow bs m).getD ((grow bs m).length - 1 - 1) 0) 17 ^^^ Sha.rot ((grow bs m).getD ((grow bs m).length - 1 - 1) 0) 19) ^^^ ((grow bs m).getD ((grow bs m).length - 1 - 1) 0 >>> 10))) % Sha.m32) = next (grow bs m) := by
      unfold next
      rw [show (grow bs m).length - 1 - 15 = (grow bs m).length - 16 by omega, show (grow bs m).length - 1 - 14 = (grow bs m).length - 15 by omega, show (grow bs m).length - 1 - 6 = (grow bs m).length - 7 by omega, show (grow bs m).length - 1 - 1 = (grow bs m).length - 2 by omega]
      simp only [ShaSpec.mix, List.foldl_cons, List.foldl_nil, Nat.zero_xor]
      rfl
    rw [hn]
    have := ih (m + 1)
    rw [show m + (n + 1) = m + 1 + n by omega, ← this]
    simp [grow]
theorem words_are (n : Nat) : ∀ bs : List Nat, 4 * n ≤ bs.length → Sha.words n bs = (List.range n).map (wordAt bs) := by
  induction n with
  | zero => intro bs h; rfl
  | succ n ih =>
    intro bs h
    match bs, h with
    | a :: b :: c :: d :: l, h =>
      simp only [List.length_cons] at h
      simp only [Sha.words]
      rw [ih l (by omega), List.range_succ_eq_map, List.map_cons, List.map_map]
      have e : (((a <<< 24) ||| (b <<< 16)) ||| ((c <<< 8) ||| d)) = wordAt (a :: b :: c :: d :: l) 0 := by
        show _ = word a b c d
        unfold word
        rw [Nat.or_assoc (_ ||| _)]
      rw [e]
      refine congrArg _ ?_
      refine List.map_congr_left fun j _ => ?_
      show wordAt l j = wordAt (a :: b :: c :: d :: l) (j + 1)
      unfold wordAt
      rw [show 4 * (j + 1) = 4 * j + 1 + 1 + 1 + 1 by omega]
      simp only [List.getD_cons_succ, Nat.add_right_comm _ 1]
    | [], h => simp at h
    | [_], h => simp at h; omega
    | [_, _], h => simp at h; omega
    | [_, _, _], h => simp at h; omega
theorem arr_all (bs : List Nat) (h : bs.length = 64) : arr bs 48 = (Sha.more 48 (Sha.words 16 bs).reverse).reverse := by
  have h0 : Sha.words 16 bs = grow bs 0 := words_are 16 bs (by omega)
  rw [h0, more_grow, List.reverse_reverse]
  simp [arr]
end Go.Proofs.YtooogaogbffjfaaDoor.Ext
end
