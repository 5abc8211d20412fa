
/-
  Texts of this claim, one behind the other: what they prove stands above each.
-/
section
set_option linter.unusedVariables false
namespace Tree
/-- the greatest power of two below n -/
def left (n : Nat) : Nat := 2 ^ Nat.log2 (n - 1)
theorem left_lt {n : Nat} (h : 2 ≤ n) : left n < n := by
  have := Nat.log2_self_le (n := n - 1) (by omega)
  unfold left; omega
theorem left_pos (n : Nat) : 0 < left n := Nat.two_pow_pos _
theorem left_le {n : Nat} (h : 2 ≤ n) : n ≤ 2 * left n := by
  have := @Nat.lt_log2_self (n - 1)
  unfold left
  rw [Nat.pow_succ] at this
  omega
theorem left_eq {n j : Nat} (h1 : 2 ^ j < n) (h2 : n ≤ 2 * 2 ^ j) : left n = 2 ^ j := by
  have : Nat.log2 (n - 1) = j := (Nat.log2_eq_iff (by omega)).2 ⟨by omega, by rw [Nat.pow_succ]; omega⟩
  unfold left; rw [this]
theorem left_same {m n : Nat} (h2 : 2 ≤ n) (h : left n < m) (h1 : m ≤ n) : left m = left n :=
  left_eq (j := Nat.log2 (n - 1)) h (Nat.le_trans h1 (left_le h2))
section
variable {β α : Type} (e : α) (lf : β → α) (nd : α → α → α)
def root (l : List β) : α :=
  match l with
  | [] => e
  | [x] => lf x
  | a :: b :: l => nd (root ((a :: b :: l).take (left (a :: b :: l).length))) (root ((a :: b :: l).drop (left (a :: b :: l).length)))
termination_by l.length
decreasing_by
  · have := left_lt (n := (a :: b :: l).length) (by simp); simp only [List.length_take]; omega
  · have := left_pos (a :: b :: l).length; simp only [List.length_drop, List.length_cons] at *; omega
theorem root_nil : root e lf nd [] = e := by rw [root]
theorem root_one (x : β) : root e lf nd [x] = lf x := by rw [root]
theorem root_big {l : List β} (h : 2 ≤ l.length) : root e lf nd l = nd (root e lf nd (l.take (left l.length))) (root e lf nd (l.drop (left l.length))) := by
  match l, h with
  | a :: b :: l, _ => rw [root]
/-- the proof of an entry, the step at the root first -/
def proofR (l : List β) (i : Nat) : List α :=
  if h : l.length ≤ 1 then [] else
    if i < left l.length then root e lf nd (l.drop (left l.length)) :: proofR (l.take (left l.length)) i
    else root e lf nd (l.take (left l.length)) :: proofR (l.drop (left l.length)) (i - left l.length)
termination_by l.length
decreasing_by
  · have := left_lt (n := l.length) (by omega); simp only [List.length_take]; omega
  · have := left_pos l.length; simp only [List.length_drop]; omega
theorem proofR_small {l : List β} (h : l.length ≤ 1) (i : Nat) : proofR e lf nd l i = [] := by rw [proofR, dif_pos h]
theorem proofR_low {l : List β} {i : Nat} (h : 2 ≤ l.length) (hi : i < left l.length) : proofR e lf nd l i = root e lf nd (l.drop (left l.length)) :: proofR e lf nd (l.take (left l.length)) i := by
  rw [proofR, dif_neg (by omega), if_pos hi]
theorem proofR_high {l : List β} {i : Nat} (h : 2 ≤ l.length) (hi : left l.length ≤ i) : proofR e lf nd l i = root e lf nd (l.take (left l.length)) :: proofR e lf nd (l.drop (left l.length)) (i - left l.length) := by
  rw [proofR, dif_neg (by omega), if_neg (by omega)]
/-- the value of a proof, the step at the root first -/
def value (n i : Nat) (s : β) (q : List α) : Option α :=
  match q with
  | [] => if n = 1 then some (lf s) else none
  | x :: q => if n = 1 then none else
    if i < left n then (value (left n) i s q).map (fun v => nd v x) else (value (n - left n) (i - left n) s q).map (fun v => nd x v)
theorem value_one_nil (i : Nat) (s : β) : value lf nd 1 i s [] = some (lf s) := by simp [value]
theorem value_one (i : Nat) (s : β) (q : List α) : value lf nd 1 i s q = if q = [] then some (lf s) else none := by
  cases q <;> simp [value]
theorem value_nil {n : Nat} (h : n ≠ 1) (i : Nat) (s : β) : value lf nd n i s [] = none := by simp [value, h]
theorem value_low {n i : Nat} (h : n ≠ 1) (hi : i < left n) (s : β) (x : α) (q : List α) : value lf nd n i s (x :: q) = (value lf nd (left n) i s q).map (fun v => nd v x) := by
  simp [value, h, hi]
theorem value_high {n i : Nat} (h : n ≠ 1) (hi : left n ≤ i) (s : β) (x : α) (q : List α) : value lf nd n i s (x :: q) = (value lf nd (n - left n) (i - left n) s q).map (fun v => nd x v) := by
  simp [value, h, Nat.not_lt.mpr hi]
theorem proof_ok (l : List β) (i : Nat) (s : β) (h : l[i]? = some s) : value lf nd l.length i s (proofR e lf nd l i) = some (root e lf nd l) := by
  induction hn : l.length using Nat.strongRecOn generalizing l i with
  | _ n ih =>
    subst hn
    have hi : i < l.length := (List.getElem?_eq_some_iff.1 h).1
    by_cases h1 : l.length ≤ 1
    · match l, h1, hi, h with
      | [x], _, hi, h =>
        have : i = 0 := by simpa using hi
        subst this
        rw [proofR_small _ _ _ (by simp)]
        simp only [List.length_singleton, value_one_nil, root_one]
        have hs : s = x := by simpa using h.symm
        rw [hs]
    · have h2 : 2 ≤ l.length := by omega
      have hlt := left_lt h2
      have hpos := left_pos l.length
      rw [root_big _ _ _ h2]
      by_cases hk : i < left l.length
      · rw [proofR_low _ _ _ h2 hk, value_low _ _ (by omega) hk]
        have := ih (l.take (left l.length)).length (by simp; omega) (l.take (left l.length)) i (by rw [List.getElem?_take_of_lt hk]; exact h) rfl
        rw [List.length_take, Nat.min_eq_left (by omega)] at this
        rw [this]; rfl
      · rw [proofR_high _ _ _ h2 (by omega), value_high _ _ (by omega) (by omega)]
        have := ih (l.drop (left l.length)).length (by simp; omega) (l.drop (left l.length)) (i - left l.length) (by rw [List.getElem?_drop, show left l.length + (i - left l.length) = i by omega]; exact h) rfl
        rw [List.length_drop] at this
        rw [this]; rfl
/-- the length that a value wants -/
def depth (n i : Nat) : Nat :=
  if h : n ≤ 1 then 0 else
    if i < left n then depth (left n) i + 1 else depth (n - left n) (i - left n) + 1
termination_by n
decreasing_by
  · exact left_lt (by omega)
  · have := left_pos n; omega
theorem value_len {n i : Nat} (hn : 1 ≤ n) {s : β} {q : List α} {r : α} (h : value lf nd n i s q = some r) : q.length = depth n i := by
  induction q generalizing n i r with
  | nil =>
    by_cases h1 : n = 1
    · subst h1; rw [depth]; simp
    · rw [value_nil _ _ h1] at h; cases h
  | cons x q ih =>
    by_cases h1 : n = 1
    · subst h1; rw [value_one] at h; simp at h
    · have := left_pos n
      have := left_lt (n := n) (by omega)
      rw [depth, dif_neg (by omega)]
      by_cases hk : i < left n
      · rw [value_low _ _ h1 hk] at h
        obtain ⟨v, hv, _⟩ := Option.map_eq_some_iff.1 h
        rw [if_pos hk, ← ih (by omega) hv]; rfl
      · rw [value_high _ _ h1 (by omega)] at h
        obtain ⟨v, hv, _⟩ := Option.map_eq_some_iff.1 h
        rw [if_neg hk, ← ih (by omega) hv]; rfl
theorem proofR_len (l : List β) (i : Nat) : (proofR e lf nd l i).length = depth l.length i := by
  induction hn : l.length using Nat.strongRecOn generalizing l i with
  | _ n ih =>
    subst hn
    by_cases h1 : l.length ≤ 1
    · rw [proofR_small _ _ _ h1, depth, dif_pos h1]; rfl
    · have hlt := left_lt (n := l.length) (by omega)
      have hpos := left_pos l.length
      rw [depth, dif_neg h1]
      by_cases hk : i < left l.length
      · rw [proofR_low _ _ _ (by omega) hk, if_pos hk, List.length_cons, ih _ (by simp; omega) (l.take (left l.length)) i rfl, List.length_take, Nat.min_eq_left (by omega)]
      · rw [proofR_high _ _ _ (by omega) (by omega), if_neg hk, List.length_cons, ih _ (by simp; omega) (l.drop (left l.length)) _ rfl, List.length_drop]
/-- at most one step for each binary digit of n - 1 -/
theorem depth_le (n i : Nat) (k : Nat) (h : n ≤ 2 ^ k) : depth n i ≤ k := by
  induction k generalizing n i with
  | zero => rw [depth, dif_pos (by simpa using h)]; omega
  | succ k ih =>
    rw [depth]
    split
    · omega
    · have h2 : 2 ≤ n := by omega
      have hle := left_le h2
      have hlt := left_lt h2
      have hk : left n ≤ 2 ^ k := by
        unfold left
        refine Nat.pow_le_pow_right (by decide) ?_
        have hl := Nat.log2_self_le (n := n - 1) (by omega)
        have : 2 ^ Nat.log2 (n - 1) < 2 ^ (k + 1) := by omega
        have := (Nat.pow_lt_pow_iff_right (a := 2) (by decide)).1 this
        omega
      split
      · exact Nat.succ_le_succ (ih _ _ hk)
      · exact Nat.succ_le_succ (ih _ _ (by omega))
/-- part, the step at the root first -/
def partR (l : List β) (m : Nat) (whole : Bool) : List α :=
  if h : l.length ≤ m ∨ l.length ≤ 1 then (if whole then [] else [root e lf nd l]) else
    if m ≤ left l.length then root e lf nd (l.drop (left l.length)) :: partR (l.take (left l.length)) m whole
    else root e lf nd (l.take (left l.length)) :: partR (l.drop (left l.length)) (m - left l.length) false
termination_by l.length
decreasing_by
  · have := left_lt (n := l.length) (by omega); simp only [List.length_take]; omega
  · have := left_pos l.length; simp only [List.length_drop]; omega
theorem partR_end {l : List β} {m : Nat} (h : l.length ≤ m) (whole : Bool) : partR e lf nd l m whole = if whole then [] else [root e lf nd l] := by rw [partR, dif_pos (.inl h)]
theorem partR_low {l : List β} {m : Nat} (h0 : 1 ≤ m) (h : m < l.length) (hm : m ≤ left l.length) (whole : Bool) : partR e lf nd l m whole = root e lf nd (l.drop (left l.length)) :: partR e lf nd (l.take (left l.length)) m whole := by
  rw [partR, dif_neg (by omega), if_pos hm]
theorem partR_high {l : List β} {m : Nat} (h0 : 1 ≤ m) (h : m < l.length) (hm : left l.length < m) (whole : Bool) : partR e lf nd l m whole = root e lf nd (l.take (left l.length)) :: partR e lf nd (l.drop (left l.length)) (m - left l.length) false := by
  rw [partR, dif_neg (by omega), if_neg (by omega)]
/-- the two values, the step at the root first -/
def both (old : α) (m n : Nat) (q : List α) (whole : Bool) : Option (α × α) :=
  match q with
  | [] => if n ≤ m then (if whole then some (old, old) else none) else none
  | x :: q => if n ≤ m then (if whole then none else if q = [] then some (x, x) else none) else
    if m ≤ left n then (both old m (left n) q whole).map (fun p => (p.1, nd p.2 x)) else (both old (m - left n) (n - left n) q false).map (fun p => (nd x p.1, nd x p.2))
theorem both_whole {old : α} {m n : Nat} (h : n ≤ m) (q : List α) : both nd old m n q true = if q = [] then some (old, old) else none := by
  cases q <;> simp [both, h]
theorem both_part {old : α} {m n : Nat} (h : n ≤ m) (q : List α) : both nd old m n q false = match q with | [x] => some (x, x) | _ => none := by
  match q with
  | [] => simp [both, h]
  | [x] => simp [both, h]
  | x :: y :: q => simp [both, h]
theorem both_nil {old : α} {m n : Nat} (h : m < n) (whole : Bool) : both nd old m n [] whole = none := by simp [both, Nat.not_le.mpr h]
theorem both_low {old : α} {m n : Nat} (h : m < n) (hm : m ≤ left n) (x : α) (q : List α) (whole : Bool) : both nd old m n (x :: q) whole = (both nd old m (left n) q whole).map (fun p => (p.1, nd p.2 x)) := by
  simp [both, Nat.not_le.mpr h, hm]
theorem both_high {old : α} {m n : Nat} (h : m < n) (hm : left n < m) (x : α) (q : List α) (whole : Bool) : both nd old m n (x :: q) whole = (both nd old (m - left n) (n - left n) q false).map (fun p => (nd x p.1, nd x p.2)) := by
  simp [both, Nat.not_le.mpr h, Nat.not_le.mpr hm]
theorem ext_ok (l : List β) (m : Nat) (h0 : 1 ≤ m) (hm : m ≤ l.length) (old : α) (whole : Bool) (ho : whole = true → old = root e lf nd (l.take m)) :
    both nd old m l.length (partR e lf nd l m whole) whole = some (root e lf nd (l.take m), root e lf nd l) := by
  induction hn : l.length using Nat.strongRecOn generalizing l m whole with
  | _ n ih =>
    subst hn
    by_cases h1 : l.length ≤ m
    · rw [partR_end _ _ _ h1]
      rw [List.take_of_length_le h1] at ho ⊢
      cases whole with
      | true => rw [if_pos rfl, both_whole _ h1, if_pos rfl, ho rfl]
      | false => rw [if_neg (by decide), both_part _ h1]
    · have h2 : 2 ≤ l.length := by omega
      have hlt := left_lt h2
      have hpos := left_pos l.length
      have hb := root_big e lf nd h2
      by_cases hk : m ≤ left l.length
      · rw [partR_low _ _ _ h0 (by omega) hk, both_low _ (by omega) hk]
        have ht : (l.take (left l.length)).take m = l.take m := by rw [List.take_take, Nat.min_eq_left hk]
        have := ih (l.take (left l.length)).length (by simp; omega) (l.take (left l.length)) m h0 (by simp; omega) whole (fun h => by rw [ht]; exact ho h) rfl
        rw [List.length_take, Nat.min_eq_left (by omega), ht] at this
        rw [this, hb]; rfl
      · rw [partR_high _ _ _ h0 (by omega) (by omega), both_high _ (by omega) (by omega)]
        have := ih (l.drop (left l.length)).length (by simp; omega) (l.drop (left l.length)) (m - left l.length) (by omega) (by simp; omega) false (fun h => by cases h) rfl
        rw [List.length_drop] at this
        rw [this, hb]
        have hl : (l.take m).length = m := by simp; omega
        have hs : left (l.take m).length = left l.length := by rw [hl]; exact left_same h2 (by omega) hm
        have hr := root_big e lf nd (l := l.take m) (by omega)
        rw [hs, List.take_take, Nat.min_eq_left (by omega), List.drop_take] at hr
        rw [hr]; rfl
/-! the stack of the roots of complete parts -/
/-- stacks, the first part at the head: the parts' roots and sizes -/
def fold : List (α × Nat) → α
  | [] => e
  | [x] => x.1
  | x :: l => nd x.1 (fold l)
/-- the parts are complete, and become smaller -/
inductive Stack : List (α × Nat) → List β → Nat → Prop
  | nil (b : Nat) : Stack [] [] b
  | cons {st : List (α × Nat)} {l s : List β} {j b : Nat} (h : Stack st l j) (hj : j < b) (hs : s.length = 2 ^ j) : Stack ((root e lf nd s, 2 ^ j) :: st) (s ++ l) b
theorem Stack.lt {st : List (α × Nat)} {l : List β} {b : Nat} (h : Stack e lf nd st l b) : l.length < 2 ^ b := by
  induction h with
  | nil => exact Nat.two_pow_pos _
  | cons h hj hs ih =>
    rename_i j b
    have : 2 ^ (j + 1) ≤ 2 ^ b := Nat.pow_le_pow_right (by decide) hj
    rw [Nat.pow_succ] at this
    simp; omega
theorem Stack.fold {st : List (α × Nat)} {l : List β} {b : Nat} (h : Stack e lf nd st l b) : fold e nd st = root e lf nd l := by
  induction h with
  | nil => simp [Tree.fold, root_nil]
  | @cons st l s j b h hj hs ih =>
    cases h with
    | nil => simp [Tree.fold]
    | @cons st' l' s' j' _ h' hj' hs' =>
      have hlt := Stack.lt e lf nd (Stack.cons (e := e) (lf := lf) (nd := nd) h' hj' hs')
      have hp := Nat.two_pow_pos j'
      have hl : left (s ++ (s' ++ l')).length = 2 ^ j := left_eq (by simp at *; omega) (by simp at *; omega)
      rw [root_big _ _ _ (l := s ++ (s' ++ l')) (by simp; have := Nat.two_pow_pos j; omega), hl, List.take_left' hs, List.drop_left' hs, ← ih]
      rfl
end
end Tree
namespace Tree
section
variable {β α : Type} (e : α) (lf : β → α) (nd : α → α → α)
/-- the parts, the last one first, are complete, tell the list's beginning, each smaller than the one before it -/
inductive StackR : List (α × Nat) → List β → Prop
  | nil : StackR [] []
  | one (x : α × Nat) (s : List β) (j : Nat) (hx : x = (root e lf nd s, 2 ^ j)) (hs : s.length = 2 ^ j) : StackR [x] s
  | cons (x y : α × Nat) (st : List (α × Nat)) (l m s : List β) (j k : Nat) (h : StackR (y :: st) l) (hx : x = (root e lf nd s, 2 ^ j)) (hy : y.2 = 2 ^ k) (hj : j < k) (hs : s.length = 2 ^ j) (hm : m = l ++ s) :
      StackR (x :: y :: st) m
/-- the same, but the last two parts may be of one size -/
inductive Loose : List (α × Nat) → List β → Prop
  | one (x : α × Nat) (s : List β) (j : Nat) (hx : x = (root e lf nd s, 2 ^ j)) (hs : s.length = 2 ^ j) : Loose [x] s
  | cons (x y : α × Nat) (st : List (α × Nat)) (l m s : List β) (j k : Nat) (h : StackR e lf nd (y :: st) l) (hx : x = (root e lf nd s, 2 ^ j)) (hy : y.2 = 2 ^ k) (hj : j ≤ k) (hs : s.length = 2 ^ j) (hm : m = l ++ s) :
      Loose (x :: y :: st) m
theorem pow_inj {j k : Nat} (h : 2 ^ j = 2 ^ k) : j = k := by
  rcases Nat.lt_trichotomy j k with h1 | h1 | h1
  · have := Nat.pow_lt_pow_right (a := 2) (by decide) h1; omega
  · exact h1
  · have := Nat.pow_lt_pow_right (a := 2) (by decide) h1; omega
theorem StackR.last {x : α × Nat} {st : List (α × Nat)} {l : List β} (h : StackR e lf nd (x :: st) l) : ∃ j, x.2 = 2 ^ j := by
  cases h with
  | one _ s j hx hs => exact ⟨j, by rw [hx]⟩
  | cons _ y st l m s j k h hx hy hj hs hm => exact ⟨j, by rw [hx]⟩
theorem root_join {s t : List β} {j : Nat} (hs : s.length = 2 ^ j) (ht : t.length = 2 ^ j) : nd (root e lf nd t) (root e lf nd s) = root e lf nd (t ++ s) := by
  have hp := Nat.two_pow_pos j
  have hl : left (t ++ s).length = 2 ^ j := left_eq (by simp; omega) (by simp; omega)
  rw [root_big _ _ _ (l := t ++ s) (by simp; omega), hl, List.take_left' ht, List.drop_left' ht]
/-- a join keeps what is told -/
theorem Loose.join {st : List (α × Nat)} {l : List β} {x y : α × Nat} (h : Loose e lf nd (x :: y :: st) l) (hxy : y.2 = x.2) : Loose e lf nd ((nd y.1 x.1, 2 * x.2) :: st) l := by
  cases h with
  | cons _ _ _ l _ s j k h hx hy hj hs hm =>
    subst hm
    have hjk : k = j := pow_inj (by rw [← hy, hxy, hx])
    subst hjk
    have h2 : 2 * 2 ^ k = 2 ^ (k + 1) := by rw [Nat.pow_succ]; omega
    cases h with
    | one _ _ k' hy' ht =>
      have hk : k' = k := pow_inj (by rw [← hy, hy'])
      subst hk
      exact .one _ _ (k' + 1) (by rw [hx, hy', root_join e lf nd hs ht, h2]) (by rw [List.length_append, ht, hs, Nat.pow_succ]; omega)
    | cons _ z st' l' _ t k2 k' h' hx' hz hj' ht hm' =>
      subst hm'
      have hk : k2 = k := pow_inj (by rw [← hy, hx'])
      subst hk
      exact .cons _ _ _ l' _ (t ++ s) (k2 + 1) k' h' (by rw [hx, hx', root_join e lf nd hs ht, h2]) hz (by omega) (by rw [List.length_append, ht, hs, Nat.pow_succ]; omega) (by rw [List.append_assoc])
theorem Loose.stop {st : List (α × Nat)} {l : List β} {x y : α × Nat} (h : Loose e lf nd (x :: y :: st) l) (hxy : y.2 ≠ x.2) : StackR e lf nd (x :: y :: st) l := by
  cases h with
  | cons _ _ _ l _ s j k h hx hy hj hs hm =>
    refine .cons _ _ _ _ _ _ j k h hx hy ?_ hs hm
    rcases Nat.lt_or_ge j k with h | h
    · exact h
    · exact absurd (by rw [hy, hx, Nat.le_antisymm hj h]) hxy
theorem Loose.single {l : List β} {x : α × Nat} (h : Loose e lf nd [x] l) : StackR e lf nd [x] l := by
  cases h with
  | one _ s j hx hs => exact .one _ _ j hx hs
theorem StackR.push {st : List (α × Nat)} {l : List β} (h : StackR e lf nd st l) (x : β) : Loose e lf nd ((lf x, 1) :: st) (l ++ [x]) := by
  have hx : lf x = root e lf nd [x] := (root_one e lf nd x).symm
  match st, h with
  | [], h =>
    cases h
    exact .one _ _ 0 (by rw [hx]; rfl) rfl
  | y :: st, h =>
    obtain ⟨k, hk⟩ := StackR.last e lf nd h
    exact .cons _ _ _ l _ [x] 0 k h (by rw [hx]) hk (by omega) rfl rfl
/-- the parts' roots are folded from the last one on -/
def foldR : α → List α → α
  | out, [] => out
  | out, r :: l => foldR (nd r out) l
/-- what is folded: the root of the list -/
theorem StackR.fold {l : List β} {x : α × Nat} {st : List (α × Nat)} (h : StackR e lf nd (x :: st) l) : foldR nd x.1 (st.map (·.1)) = root e lf nd l := by
  -- in general: behind an end u that is shorter than the last part
  have key : ∀ (st : List (α × Nat)) (l : List β), StackR e lf nd st l → ∀ (u : List β), (∀ y st', st = y :: st' → u.length < y.2) → 0 < u.length → foldR nd (root e lf nd u) (st.map (·.1)) = root e lf nd (l ++ u) := by
    intro st l h
    induction h with
    | nil => intro u _ _; simp [foldR]
    | one x s j hx hs =>
      intro u hu h0
      subst hx
      have hu' := hu _ _ rfl
      simp only at hu'
      have hl : left (s ++ u).length = 2 ^ j := left_eq (by simp; omega) (by simp; omega)
      have hp := Nat.two_pow_pos j
      rw [root_big _ _ _ (l := s ++ u) (by simp; omega), hl, List.take_left' hs, List.drop_left' hs]
      rfl
    | cons x y st l m s j k h hx hy hj hs hm ih =>
      intro u hu h0
      subst hx; subst hm
      have hu' := hu _ _ rfl
      simp only at hu'
      have hl : left (s ++ u).length = 2 ^ j := left_eq (by simp; omega) (by simp; omega)
      have hp := Nat.two_pow_pos j
      have hr : nd (root e lf nd s) (root e lf nd u) = root e lf nd (s ++ u) := by
        rw [root_big _ _ _ (l := s ++ u) (by simp; omega), hl, List.take_left' hs, List.drop_left' hs]
      have := ih (s ++ u) (fun z st' e => by
        injection e with e1 e2; subst e1
        have : 2 ^ (j + 1) ≤ 2 ^ k := Nat.pow_le_pow_right (by decide) hj
        rw [Nat.pow_succ] at this
        rw [hy]; simp; omega) (by simp; omega)
      rw [List.append_assoc, ← this]
      simp only [List.map_cons, foldR]
      rw [hr]
  cases h with
  | one _ s j hx hs => subst hx; rfl
  | cons _ y st l m s j k h hx hy hj hs hm =>
    subst hx; subst hm
    exact key _ _ h s (fun z st' e => by
      injection e with e1 e2; subst e1
      rw [hs, hy]
      exact Nat.pow_lt_pow_right (by decide) hj) (by rw [hs]; exact Nat.two_pow_pos j)
end
/-! ### collisions -/
section
variable {σ : Type} (S : σ → σ) (L : σ → σ) (N : σ → σ → σ) (dig : σ → Prop)
/-- two different strings at the same place of two lists have the same digest -/
def Coll (a b : List σ) : Prop := ∃ (i : Nat) (x y : σ), a[i]? = some x ∧ b[i]? = some y ∧ x ≠ y ∧ S x = S y
theorem Coll.cons {a b : List σ} (x y : σ) (h : Coll S a b) : Coll S (x :: a) (y :: b) := by
  obtain ⟨i, p, q, h1, h2, h3, h4⟩ := h
  exact ⟨i + 1, p, q, by simpa using h1, by simpa using h2, h3, h4⟩
theorem Coll.head {a b : List σ} {x y : σ} (h : x ≠ y) (hs : S x = S y) : Coll S (x :: a) (y :: b) := ⟨0, x, y, by simp, by simp, h, hs⟩
/-- the strings that are hashed for a proof, from the root on, and the value -/
def way (n i : Nat) (s : σ) : List σ → List σ × σ
  | [] => ([L s], S (L s))
  | x :: q => if n ≤ 1 then ([L s], S (L s)) else
    if i < left n then let p := way (left n) i s q; (N p.2 x :: p.1, S (N p.2 x))
    else let p := way (n - left n) (i - left n) s q; (N x p.2 :: p.1, S (N x p.2))
/-- the strings that are hashed for the new root of an extension, from the root on, and the value -/
def sides (old : σ) (m n : Nat) (q : List σ) (whole : Bool) : List σ × σ :=
  match q with
  | [] => ([], old)
  | x :: q => if n ≤ m then (if whole then ([], old) else ([], (x :: q).getLast (by simp))) else
    if m ≤ left n then let p := sides old m (left n) q whole; (N p.2 x :: p.1, S (N p.2 x))
    else let p := sides old (m - left n) (n - left n) q false; (N x p.2 :: p.1, S (N x p.2))
end
end Tree
end
