namespace Crc
/-- one bit of the register -/
def bs (x : Nat) : Nat := if x % 2 = 1 then (x >>> 1) ^^^ 0x82F63B78 else x >>> 1
def bsN : Nat → Nat → Nat
  | 0, x => x
  | n + 1, x => bsN n (bs x)

theorem xor_mod_two (x y : Nat) : (x ^^^ y) % 2 = (x % 2 + y % 2) % 2 := by
  have h := Nat.testBit_xor x y 0
  simp only [Nat.testBit_zero] at h
  have hx := Nat.mod_two_eq_zero_or_one x
  have hy := Nat.mod_two_eq_zero_or_one y
  have hz := Nat.mod_two_eq_zero_or_one (x ^^^ y)
  rcases hx with hx | hx <;> rcases hy with hy | hy <;> rcases hz with hz | hz <;> simp [hx, hy, hz] at h ⊢

theorem bs_xor (x y : Nat) : bs (x ^^^ y) = bs x ^^^ bs y := by
  unfold bs
  rw [xor_mod_two, Nat.shiftRight_xor_distrib]
  have hx := Nat.mod_two_eq_zero_or_one x
  have hy := Nat.mod_two_eq_zero_or_one y
  rcases hx with hx | hx <;> rcases hy with hy | hy <;> simp [hx, hy]
  · rw [Nat.xor_assoc]
  · rw [Nat.xor_assoc, Nat.xor_assoc, Nat.xor_comm (y >>> 1)]
  · rw [Nat.xor_assoc (x >>> 1), ← Nat.xor_assoc 2197175160, Nat.xor_comm 2197175160 (y >>> 1), Nat.xor_assoc (y >>> 1), Nat.xor_self, Nat.xor_zero]

theorem bsN_xor (n x y : Nat) : bsN n (x ^^^ y) = bsN n x ^^^ bsN n y := by
  induction n generalizing x y with
  | zero => rfl
  | succ n ih => simp only [bsN]; rw [bs_xor, ih]
theorem bsN_add (m n x : Nat) : bsN (m + n) x = bsN n (bsN m x) := by
  induction m generalizing x with
  | zero => simp [bsN]
  | succ m ih => rw [Nat.succ_add]; simp only [bsN]; exact ih _
theorem bs_double (x : Nat) : bs (2 * x) = x := by
  unfold bs
  rw [if_neg (by omega), Nat.shiftRight_eq_div_pow]; omega
theorem bsN_shift (n x : Nat) : bsN n (x <<< n) = x := by
  induction n generalizing x with
  | zero => simp [bsN]
  | succ n ih =>
    simp only [bsN]
    have : x <<< (n + 1) = 2 * (x <<< n) := by
      simp [Nat.shiftLeft_eq, Nat.pow_succ]; ac_rfl
    rw [this, bs_double, ih]
theorem bs_lt (x : Nat) (h : x < 2 ^ 32) : bs x < 2 ^ 32 := by
  unfold bs
  split
  · exact Nat.xor_lt_two_pow (by rw [Nat.shiftRight_eq_div_pow]; omega) (by decide)
  · rw [Nat.shiftRight_eq_div_pow]; omega
theorem bsN_lt (n x : Nat) (h : x < 2 ^ 32) : bsN n x < 2 ^ 32 := by
  induction n generalizing x with
  | zero => exact h
  | succ n ih => exact ih _ (bs_lt _ h)
theorem bs_ne (x : Nat) (h : x < 2 ^ 32) (h0 : x ≠ 0) : bs x ≠ 0 := by
  unfold bs
  split
  · intro e
    have e2 := congrArg (fun z => z.testBit 31) e
    simp only [Nat.testBit_xor, Nat.zero_testBit] at e2
    have : (x >>> 1).testBit 31 = false := Nat.testBit_lt_two_pow (by rw [Nat.shiftRight_eq_div_pow]; omega)
    rw [this] at e2
    exact absurd e2 (by decide)
  · rw [Nat.shiftRight_eq_div_pow]; omega
theorem bsN_ne (n x : Nat) (h : x < 2 ^ 32) (h0 : x ≠ 0) : bsN n x ≠ 0 := by
  induction n generalizing x with
  | zero => exact h0
  | succ n ih => exact ih _ (bs_lt _ h) (bs_ne _ h h0)

/-- the number whose bytes these are, the lowest one first -/
def num : List Nat → Nat
  | [] => 0
  | b :: l => b ^^^ (num l <<< 8)
/-- the register behind the bytes -/
def reg (r : Nat) (l : List Nat) : Nat := l.foldl (fun r b => bsN 8 (r ^^^ b)) r
theorem reg_num (l : List Nat) (r : Nat) : reg r l = bsN (8 * l.length) (r ^^^ num l) := by
  induction l generalizing r with
  | nil => simp [reg, num, bsN]
  | cons b l ih =>
    have : reg r (b :: l) = reg (bsN 8 (r ^^^ b)) l := rfl
    rw [this, ih, List.length_cons, show 8 * (l.length + 1) = 8 + 8 * l.length by omega, bsN_add]
    congr 1
    simp only [num]
    rw [← Nat.xor_assoc, bsN_xor 8 (r ^^^ b), bsN_shift]
def sum (l : List Nat) : Nat := reg 0xFFFFFFFF l ^^^ 0xFFFFFFFF

/-- four bits at once -/
def tab : List Nat := [0x00000000, 0x105EC76F, 0x20BD8EDE, 0x30E349B1, 0x417B1DBC, 0x5125DAD3, 0x61C69362, 0x7198540D, 0x82F63B78, 0x92A8FC17, 0xA24BB5A6, 0xB21572C9, 0xC38D26C4, 0xD3D3E1AB, 0xE330A81A, 0xF36E6F75]
theorem tab_ok : ∀ m : Nat, m < 16 → bsN 4 m = tab.getD m 0 := by decide
theorem mod_xor (r k : Nat) : r = ((r >>> k) <<< k) ^^^ (r % 2 ^ k) := by
  apply Nat.eq_of_testBit_eq
  intro i
  simp only [Nat.testBit_xor, Nat.testBit_shiftLeft, Nat.testBit_shiftRight, Nat.testBit_mod_two_pow]
  by_cases h : i < k
  · simp [h, Nat.not_le.mpr h]
  · have : k ≤ i := by omega
    simp [h, this]
theorem bsN4 (r : Nat) : bsN 4 r = (r >>> 4) ^^^ tab.getD (r % 16) 0 := by
  conv => lhs; rw [mod_xor r 4]
  rw [bsN_xor, bsN_shift, show (2 : Nat) ^ 4 = 16 from rfl, tab_ok _ (Nat.mod_lt _ (by decide))]
theorem bsN8 (r : Nat) : bsN 8 r = bsN 4 (bsN 4 r) := bsN_add 4 4 r

theorem num_xor (a b : List Nat) (h : a.length = b.length) : num (List.zipWith (· ^^^ ·) a b) = num a ^^^ num b := by
  induction a generalizing b with
  | nil => cases b with
    | nil => rfl
    | cons => simp at h
  | cons x a ih =>
    cases b with
    | nil => simp at h
    | cons y b =>
      simp only [List.zipWith_cons_cons, num]
      rw [ih b (by simpa using h), Nat.shiftLeft_xor_distrib]
      generalize num a <<< 8 = p; generalize num b <<< 8 = q
      ac_rfl
theorem zip_len (a b : List Nat) (h : a.length = b.length) : (List.zipWith (· ^^^ ·) a b).length = a.length := by simp [h]

theorem sum_affine (a b c : List Nat) (h1 : a.length = b.length) (h2 : b.length = c.length) :
    sum (List.zipWith (· ^^^ ·) (List.zipWith (· ^^^ ·) a b) c) = sum a ^^^ sum b ^^^ sum c := by
  have h3 : (List.zipWith (· ^^^ ·) a b).length = c.length := by rw [zip_len _ _ h1]; omega
  unfold sum
  rw [reg_num, reg_num, reg_num, reg_num, num_xor _ _ h3, num_xor _ _ h1, zip_len _ _ h3, zip_len _ _ h1, ← h2, ← h1]
  simp only [bsN_xor]
  generalize bsN (8 * a.length) 0xFFFFFFFF = i
  generalize bsN (8 * a.length) (num a) = x
  generalize bsN (8 * a.length) (num b) = y
  generalize bsN (8 * a.length) (num c) = z
  apply Nat.eq_of_testBit_eq
  intro j
  simp only [Nat.testBit_xor]
  cases i.testBit j <;> cases x.testBit j <;> cases y.testBit j <;> cases z.testBit j <;> cases (0xFFFFFFFF : Nat).testBit j <;> rfl

/-- what differs tells whether the sums do -/
theorem sum_differs (a b : List Nat) (h : a.length = b.length) : sum a = sum b ↔ bsN (8 * a.length) (num a ^^^ num b) = 0 := by
  unfold sum
  rw [reg_num, reg_num, ← h]
  simp only [bsN_xor]
  generalize bsN (8 * a.length) 0xFFFFFFFF = i
  generalize bsN (8 * a.length) (num a) = x
  generalize bsN (8 * a.length) (num b) = y
  constructor
  · intro e
    apply Nat.eq_of_testBit_eq
    intro j
    have := congrArg (fun t => t.testBit j) e
    simp only [Nat.testBit_xor, Nat.zero_testBit] at this ⊢
    revert this
    cases i.testBit j <;> cases x.testBit j <;> cases y.testBit j <;> cases (0xFFFFFFFF : Nat).testBit j <;> simp
  · intro e
    apply Nat.eq_of_testBit_eq
    intro j
    have := congrArg (fun t => t.testBit j) e
    simp only [Nat.testBit_xor, Nat.zero_testBit] at this ⊢
    revert this
    cases i.testBit j <;> cases x.testBit j <;> cases y.testBit j <;> cases (0xFFFFFFFF : Nat).testBit j <;> simp
/-- a burst of at most 32 bits is seen -/
theorem burst (n at_ p : Nat) (hat : at_ ≤ n) (hp : p < 2 ^ 32) (h0 : p ≠ 0) : bsN n (p <<< at_) ≠ 0 := by
  rw [show n = at_ + (n - at_) by omega, bsN_add, bsN_shift]
  exact bsN_ne _ _ hp h0
theorem reg_lt (l : List Nat) (hl : ∀ b ∈ l, b < 2 ^ 32) (r : Nat) (h : r < 2 ^ 32) : reg r l < 2 ^ 32 := by
  induction l generalizing r with
  | nil => exact h
  | cons b l ih => exact ih (fun x hx => hl x (by simp [hx])) _ (bsN_lt _ _ (Nat.xor_lt_two_pow h (hl b (by simp))))
end Crc
