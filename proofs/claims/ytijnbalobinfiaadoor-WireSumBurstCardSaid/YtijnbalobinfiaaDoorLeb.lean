namespace Leb
/-- the groups of a number, the lowest one first -/
def leb (z : Nat) : List Nat := if z < 128 then [z] else (z % 128 + 128) :: leb (z / 128)
termination_by z
decreasing_by omega

theorem leb_small {z : Nat} (h : z < 128) : leb z = [z] := by rw [leb, if_pos h]
theorem leb_big {z : Nat} (h : ¬ z < 128) : leb z = (z % 128 + 128) :: leb (z / 128) := by rw [leb, if_neg h]

/-- what groups say -/
def val : List Nat → Nat
  | [] => 0
  | b :: l => b % 128 + 128 * val l

/-- a list of groups that is a code: every byte but the last one is 128 or more, the last one isn't, and isn't zero behind others -/
def Code : List Nat → Prop
  | [] => False
  | [b] => b < 128
  | b :: l => 128 ≤ b ∧ b < 256 ∧ Code l ∧ l ≠ [0]

theorem code_cons {b c : Nat} {l : List Nat} : Code (b :: c :: l) ↔ 128 ≤ b ∧ b < 256 ∧ Code (c :: l) ∧ c :: l ≠ [0] := Iff.rfl
theorem leb_ne (z : Nat) : leb z ≠ [] := by rw [leb]; split <;> simp
theorem leb_zero {z : Nat} (h : leb z = [0]) : z = 0 := by
  rw [leb] at h
  split at h
  · simpa using h
  · simp at h
theorem leb_code (z : Nat) : Code (leb z) := by
  induction z using Nat.strongRecOn with
  | _ z ih =>
    by_cases h : z < 128
    · rw [leb_small h]; exact h
    · rw [leb_big h]
      have h1 := ih (z / 128) (by omega)
      match e : leb (z / 128), leb_ne (z / 128) with
      | c :: l, _ =>
        rw [code_cons]
        refine ⟨by omega, by omega, by rw [← e]; exact h1, ?_⟩
        rw [← e]
        intro e0
        have := leb_zero e0
        omega
theorem val_leb (z : Nat) : val (leb z) = z := by
  induction z using Nat.strongRecOn with
  | _ z ih =>
    by_cases h : z < 128
    · rw [leb_small h]; simp [val]; omega
    · rw [leb_big h]
      simp only [val]
      rw [ih (z / 128) (by omega)]
      omega
theorem code_pos {c : Nat} {l : List Nat} (h : Code (c :: l)) (hn : c :: l ≠ [0]) : 0 < val (c :: l) := by
  induction l generalizing c with
  | nil => simp only [Code] at h; simp [val] at *; omega
  | cons d l ih =>
    rw [code_cons] at h
    have := ih h.2.2.1 h.2.2.2
    simp only [val] at *
    omega
theorem leb_val {l : List Nat} (h : Code l) : leb (val l) = l := by
  induction l with
  | nil => exact h.elim
  | cons b l ih =>
    cases l with
    | nil => simp only [Code] at h; simp only [val]; rw [leb_small (by omega)]; simp; omega
    | cons c l =>
      rw [code_cons] at h
      obtain ⟨h1, h2, h3, h4⟩ := h
      have hp := code_pos h3 h4
      have hv : val (b :: c :: l) = b % 128 + 128 * val (c :: l) := rfl
      rw [hv, leb_big (by omega), show (b % 128 + 128 * val (c :: l)) / 128 = val (c :: l) by omega, ih h3, show (b % 128 + 128 * val (c :: l)) % 128 + 128 = b by omega]
/-- codes are prefix-free -/
theorem code_prefix {a b x y : List Nat} (ha : Code a) (hb : Code b) (h : a ++ x = b ++ y) : a = b ∧ x = y := by
  induction a generalizing b with
  | nil => exact ha.elim
  | cons p a ih =>
    cases b with
    | nil => exact hb.elim
    | cons q b =>
      simp only [List.cons_append, List.cons.injEq] at h
      obtain ⟨rfl, h⟩ := h
      cases a with
      | nil =>
        cases b with
        | nil => exact ⟨rfl, by simpa using h⟩
        | cons d b => simp only [Code] at ha; rw [code_cons] at hb; omega
      | cons c a =>
        cases b with
        | nil => simp only [Code] at hb; rw [code_cons] at ha; omega
        | cons d b =>
          rw [code_cons] at ha hb
          obtain ⟨e1, e2⟩ := ih ha.2.2.1 hb.2.2.1 h
          exact ⟨by rw [e1], e2⟩
theorem leb_inj {a b : Nat} (h : leb a = leb b) : a = b := by rw [← val_leb a, h, val_leb]
theorem leb_prefix {a b : Nat} {x y : List Nat} (h : leb a ++ x = leb b ++ y) : a = b ∧ x = y := by
  obtain ⟨e, e2⟩ := code_prefix (leb_code a) (leb_code b) h
  exact ⟨leb_inj e, e2⟩
theorem leb_bytes (z : Nat) : ∀ b ∈ leb z, b < 256 := by
  induction z using Nat.strongRecOn with
  | _ z ih =>
    by_cases h : z < 128
    · rw [leb_small h]; simp; omega
    · rw [leb_big h]
      intro b hb
      rcases List.mem_cons.1 hb with rfl | hb
      · omega
      · exact ih _ (by omega) b hb
theorem leb_length (k : Nat) : ∀ z, z < 128 ^ (k + 1) → (leb z).length ≤ k + 1 := by
  induction k with
  | zero => intro z h; rw [leb_small (by simpa using h)]; simp
  | succ k ih =>
    intro z h
    by_cases hz : z < 128
    · rw [leb_small hz]; simp
    · rw [leb_big hz]
      have := ih (z / 128) (by rw [Nat.pow_succ] at h; omega)
      simp; omega
/-- the encoded number of an integer, and back -/
def zig (n : Int) : Nat := if n < 0 then (-2 * n - 1).toNat else (2 * n).toNat
def zag (z : Nat) : Int := if z % 2 = 1 then -((z / 2 : Nat) : Int) - 1 else ((z / 2 : Nat) : Int)
theorem zag_zig (n : Int) : zag (zig n) = n := by
  unfold zag zig
  split <;> split <;> omega
theorem zig_zag (z : Nat) : zig (zag z) = z := by
  unfold zag zig
  split <;> split <;> omega
theorem zig_inj {a b : Int} (h : zig a = zig b) : a = b := by rw [← zag_zig a, h, zag_zig]
def enc (n : Int) : List Nat := leb (zig n)
end Leb
