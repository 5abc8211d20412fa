
/-
  Texts of this claim, one behind the other: what they prove stands above each.
-/
section
namespace Sha
def m32 : Nat := 4294967296
/-- rotated right -/
def rot (x n : Nat) : Nat := (x >>> n) ||| ((x <<< (32 - n)) % m32)
def kk : List Nat := [
  0x428a2f98, 0x71374491, 0xb5c0fbcf, 0xe9b5dba5, 0x3956c25b, 0x59f111f1, 0x923f82a4, 0xab1c5ed5,
  0xd807aa98, 0x12835b01, 0x243185be, 0x550c7dc3, 0x72be5d74, 0x80deb1fe, 0x9bdc06a7, 0xc19bf174,
  0xe49b69c1, 0xefbe4786, 0x0fc19dc6, 0x240ca1cc, 0x2de92c6f, 0x4a7484aa, 0x5cb0a9dc, 0x76f988da,
  0x983e5152, 0xa831c66d, 0xb00327c8, 0xbf597fc7, 0xc6e00bf3, 0xd5a79147, 0x06ca6351, 0x14292967,
  0x27b70a85, 0x2e1b2138, 0x4d2c6dfc, 0x53380d13, 0x650a7354, 0x766a0abb, 0x81c2c92e, 0x92722c85,
  0xa2bfe8a1, 0xa81a664b, 0xc24b8b70, 0xc76c51a3, 0xd192e819, 0xd6990624, 0xf40e3585, 0x106aa070,
  0x19a4c116, 0x1e376c08, 0x2748774c, 0x34b0bcb5, 0x391c0cb3, 0x4ed8aa4a, 0x5b9cca4f, 0x682e6ff3,
  0x748f82ee, 0x78a5636f, 0x84c87814, 0x8cc70208, 0x90befffa, 0xa4506ceb, 0xbef9a3f7, 0xc67178f2]
/-- the first sixteen words of a block -/
def words : Nat → List Nat → List Nat
  | 0, _ => []
  | n + 1, a :: b :: c :: d :: l => (((a <<< 24) ||| (b <<< 16)) ||| ((c <<< 8) ||| d)) :: words n l
  | _ + 1, _ => []
/-- the others; the words are kept with the last one first -/
def more : Nat → List Nat → List Nat
  | 0, w => w
  | n + 1, w =>
    let p := w.getD 14 0
    let q := w.getD 1 0
    more n (((w.getD 15 0 + ((rot p 7 ^^^ rot p 18) ^^^ (p >>> 3)) + w.getD 6 0 + ((rot q 17 ^^^ rot q 19) ^^^ (q >>> 10))) % m32) :: w)
structure St where
  (a b c d e f g h : Nat)
  deriving DecidableEq
def rnd (s : St) (k w : Nat) : St :=
  let t := (s.h + ((rot s.e 6 ^^^ rot s.e 11) ^^^ rot s.e 25) + ((s.e &&& s.f) ^^^ ((m32 - 1 - s.e) &&& s.g)) + k + w) % m32
  let u := (((rot s.a 2 ^^^ rot s.a 13) ^^^ rot s.a 22) + (((s.a &&& s.b) ^^^ (s.a &&& s.c)) ^^^ (s.b &&& s.c))) % m32
  ⟨(t + u) % m32, s.a, s.b, s.c, (s.d + t) % m32, s.e, s.f, s.g⟩
def rounds : List Nat → List Nat → St → St
  | k :: ks, w :: ws, s => rounds ks ws (rnd s k w)
  | _, _, s => s
def block (s : St) (b : List Nat) : St :=
  let v := rounds kk (more 48 (words 16 b).reverse).reverse s
  ⟨(s.a + v.a) % m32, (s.b + v.b) % m32, (s.c + v.c) % m32, (s.d + v.d) % m32, (s.e + v.e) % m32, (s.f + v.f) % m32, (s.g + v.g) % m32, (s.h + v.h) % m32⟩
def init : St := ⟨0x6a09e667, 0xbb67ae85, 0x3c6ef372, 0xa54ff53a, 0x510e527f, 0x9b05688c, 0x1f83d9ab, 0x5be0cd19⟩
def pad (n : Nat) : List Nat := 128 :: (List.replicate ((119 - n % 64) % 64) 0 ++ [(8 * n) / 2^56 % 256, (8 * n) / 2^48 % 256, (8 * n) / 2^40 % 256, (8 * n) / 2^32 % 256, (8 * n) / 2^24 % 256, (8 * n) / 2^16 % 256, (8 * n) / 2^8 % 256, (8 * n) % 256])
def blocks : Nat → St → List Nat → St
  | 0, s, _ => s
  | n + 1, s, l => blocks n (block s (l.take 64)) (l.drop 64)
def be (x : Nat) : List Nat := [x >>> 24, (x >>> 16) % 256, (x >>> 8) % 256, x % 256]
def out (s : St) : List Nat := be s.a ++ be s.b ++ be s.c ++ be s.d ++ be s.e ++ be s.f ++ be s.g ++ be s.h
def sha (l : List Nat) : List Nat := let p := l ++ pad l.length; out (blocks (p.length / 64) init p)
set_option maxRecDepth 100000 in
example : sha [97, 98, 99] = [0xba,0x78,0x16,0xbf,0x8f,0x01,0xcf,0xea,0x41,0x41,0x40,0xde,0x5d,0xae,0x22,0x23,0xb0,0x03,0x61,0xa3,0x96,0x17,0x7a,0x9c,0xb4,0x10,0xff,0x61,0xf2,0x00,0x15,0xad] := by decide +kernel
end Sha
end
