import Derived.Test.YtlmlimihgohchaaDoorYMarked
import Derived.Test.YtlmlimihgohchaaDoorYTree
import Derived.Test.YtlmlimihgohchaaDoorYBack
import Derived.Laws.AppendOwn
import Derived.Deep.AppendLies
import Derived.Deep.RegionLaw
import Derived.OwnWalk
/-
  Texts of this claim, one behind the other: what they prove stands above each.
-/
section
/-
  The walk of Root.
-/
namespace Go.Proofs.YtlmlimihgohchaaDoor.Ext
open Go.RowKit Go.Shelf Go.Proofs.YtlmlimihgohchaaDoorW.PrintWords Go.Proofs.YtlmlimihgohchaaDoorW.PrintLast Go.Proofs.YtlmlimihgohchaaDoorW.PrintMore
set_option linter.unusedVariables false
set_option linter.unusedSimpArgs false
attribute [local go_sem] Oper.semAt_some
attribute [local go_sem ↓] Go.wp_at_zero Go.wp_at_succ
section
variable {β α : Type} (e : α) (lf : β → α) (nd : α → α → α)
theorem stack_mem {st : List (α × Nat)} {l : List β} (h : Tree.StackR e lf nd st l) : ∀ y ∈ st, ∃ s, y.1 = Tree.root e lf nd s ∧ y.2 = s.length ∧ s.length ≤ l.length := by
  induction h with
  | nil => intro y hy; cases hy
  | one x s j hx hs => intro y hy; rw [List.mem_singleton] at hy; subst hy; exact ⟨s, by rw [hx], by rw [hx, hs], Nat.le_refl _⟩
  | cons x y st l m s j k h hx hy hj hs hm ih =>
    intro z hz
    subst hm
    rcases List.mem_cons.1 hz with rfl | hz
    · exact ⟨s, by rw [hx], by rw [hx, hs], by simp⟩
    · obtain ⟨t, h1, h2, h3⟩ := ih z hz
      exact ⟨t, h1, h2, by simp; omega⟩
theorem stack_len {st : List (α × Nat)} {l : List β} (h : Tree.StackR e lf nd st l) : st.length ≤ l.length := by
  induction h with
  | nil => simp
  | one x s j hx hs => have := Nat.two_pow_pos j; simp; omega
  | cons x y st l m s j k h hx hy hj hs hm ih => subst hm; have := Nat.two_pow_pos j; simp at ih ⊢; omega
theorem loose_mem {st : List (α × Nat)} {l : List β} (h : Tree.Loose e lf nd st l) : ∀ y ∈ st, ∃ s, y.1 = Tree.root e lf nd s ∧ y.2 = s.length ∧ s.length ≤ l.length := by
  cases h with
  | one x s j hx hs => intro y hy; rw [List.mem_singleton] at hy; subst hy; exact ⟨l, by rw [hx], by rw [hx, hs], Nat.le_refl _⟩
  | cons x y st l m s j k h hx hy hj hs hm =>
    intro z hz
    subst hm
    rcases List.mem_cons.1 hz with rfl | hz
    · exact ⟨s, by rw [hx], by rw [hx, hs], by simp⟩
    · obtain ⟨t, h1, h2, h3⟩ := stack_mem e lf nd h z hz
      exact ⟨t, h1, h2, by simp; omega⟩
theorem loose_len {st : List (α × Nat)} {l : List β} (h : Tree.Loose e lf nd st l) : 0 < st.length ∧ st.length ≤ l.length := by
  cases h with
  | one x s j hx hs => have := Nat.two_pow_pos j; simp; omega
  | cons x y st l m s j k h hx hy hj hs hm => subst hm; have := Nat.two_pow_pos j; have := stack_len e lf nd h; simp at this ⊢; omega
end
/-- the digests that a tree is made of -/
abbrev dE : ByteArray := hash ⟨#[]⟩
abbrev dL (s : ByteArray) : ByteArray := hash (⟨#[0]⟩ ++ s)
abbrev dN (a b : ByteArray) : ByteArray := hash (⟨#[1]⟩ ++ (a ++ b))
theorem hash_size (s : ByteArray) : (hash s).size = 32 := by
  unfold hash str ByteArray.size
  rfl
theorem root_size (l : List ByteArray) : (Tree.root dE dL dN l).size = 32 := by
  rcases l with _ | ⟨x, _ | ⟨y, l⟩⟩
  · rw [Tree.root_nil]; exact hash_size _
  · rw [Tree.root_one]; exact hash_size _
  · rw [Tree.root_big _ _ _ (by simp)]; exact hash_size _
/-- the two rows of Root -/
def Stk (w : World) (N : Nat) (v3 v4 : Value) (st : List (ByteArray × Nat)) : Prop :=
  w.ownsRow N 9 1 v3 st.length ((st.reverse.map (·.1)).map Value.string) ∧ w.ownsRow N 3 1 v4 st.length ((st.reverse.map (·.2)).map fun x : Nat => Value.int .i64 (x : Int))
theorem Stk.below {w w' : World} {N : Nat} {v3 v4 : Value} {st : List (ByteArray × Nat)} (h : Stk w N v3 v4 st) (hb : Below w.heap.size w w') : Stk w' N v3 v4 st :=
  ⟨h.1.kept (below_grown (B := 0) hb none) (by rcases hh : v3.ownBlock with _ | k; exact .inl rfl; exact .inr (by simp)), h.2.kept (below_grown (B := 0) hb none) (by rcases hh : v4.ownBlock with _ | k; exact .inl rfl; exact .inr (by simp))⟩
theorem strs_cell {w : World} {ad : Addr} {n : Nat} {l : List ByteArray} (h : Kd.C Kd.string w (some ad) n l) {j : Nat} {x : ByteArray} (hj : l[j]? = some x) : w.cell? (ad.add j) = some (.string x) := by
  have hn : 0 < n := by have := (List.getElem?_eq_some_iff.1 hj).1; have := h.1; omega
  obtain ⟨ad', he, hc⟩ := h.2.2 hn
  injection he with he
  subst he
  obtain ⟨cs, h1, h2, h3⟩ := hc j x hj
  have h4 := h3 0 (.string x) (by
    have : cs = [.string x] := h2
    rw [this]; rfl)
  simpa [Kd.string, Kd.scalar] using h4
theorem rows_ne {w : World} {N e1 e2 n m : Nat} {v3 v4 : Value} {xs ys : List Value} (h1 : w.ownsRow N e1 1 v3 n xs) (h2 : w.ownsRow N e2 1 v4 m ys) (hne : e1 ≠ e2) : v4.ownBlock = none ∨ v4.ownBlock ≠ v3.ownBlock := by
  rcases h2.2 with ⟨rfl, _⟩ | ⟨g, cap, cur, rfl, hg, hh, _⟩
  · exact .inl rfl
  · refine .inr fun e => ?_
    rcases h1.2 with ⟨rfl, _⟩ | ⟨g', cap', cur', rfl, hg', hh', _⟩
    · simp [Value.ownBlock] at e
    · simp only [Value.ownBlock, Option.some.injEq] at e
      subst e
      rw [hh] at hh'
      injection hh' with hh'
      injection hh' with _ hh' _
      exact hne hh'.symm
theorem own_keep {w w' : World} {N e n : Nat} {v : Value} {xs : List Value} (h : w.ownsRow N e 1 v n xs) (hb : Below w.heap.size w w') : w'.ownsRow N e 1 v n xs := h.kept (below_grown (B := 0) hb none) (by rcases hh : v.ownBlock with _ | k; exact .inl rfl; exact .inr (by simp))
theorem own_base' {w : World} {N e n : Nat} {v : Value} {xs : List Value} (h : w.ownsRow N e 1 v n xs) : ∀ k, v.ownBlock = some k → N ≤ k := fun k hk => (h.lt k hk).1
/-- both rows have grown by one -/
theorem stk_grown {w1 w2 w3 : World} {N : Nat} {v3 v4 v3' v4' : Value} {st st' : List (ByteArray × Nat)} {y : ByteArray} {m : Nat} {o1 o2 : Obj} (hN : N ≤ w1.heap.size)
    (h3 : w1.ownsRow N 9 1 v3 st.length ((st.reverse.map (·.1)).map Value.string)) (h4 : w1.ownsRow N 3 1 v4 st'.length ((st'.reverse.map (·.2)).map fun x : Nat => Value.int .i64 (x : Int)))
    (k3 : w2.ownsRow N 9 1 v3' (st.length + 1) ((st.reverse.map (·.1)).map Value.string ++ [.string y])) (g3 : (w1.alloc o1).grownBy w2 v3.ownBlock)
    (k4 : w3.ownsRow N 3 1 v4' (st.length + 1) ((st.reverse.map (·.2)).map (fun x : Nat => Value.int .i64 (x : Int)) ++ [.int .i64 (m : Int)])) (g4 : (w2.alloc o2).grownBy w3 v4.ownBlock) (hv : w2.ownsRow N 3 1 v4 st'.length ((st'.reverse.map (·.2)).map fun x : Nat => Value.int .i64 (x : Int))) :
    Stk w3 N v3' v4' ((y, m) :: st) ∧ Below N w1 w3 := by
  refine ⟨⟨?_, ?_⟩, ?_⟩
  · have := (k3.alloc o2).kept g4 (rows_ne (hv.alloc o2) (k3.alloc o2) (by decide))
    simpa using this
  · simpa using k4
  · have b1 : Below N w1 w2 := Below.grown ((Below.refl _ _).alloc hN _) g3 (by simp; omega) (own_base' h3)
    have hs := b1.size
    exact b1.trans (Below.grown ((Below.refl _ _).alloc (by omega) _) g4 (by simp; omega) (own_base' h4))
theorem own_take {w : World} {N e n m g c : Nat} {xs : List Value} (h : w.ownsRow N e 1 (.slice (some ⟨g, 0, none⟩) n c) n xs) (hm : m ≤ n) : w.ownsRow N e 1 (.slice (some ⟨g, 0, none⟩) m c) m (xs.take m) := by
  obtain ⟨h1, h2⟩ := h
  refine ⟨by rw [List.length_take, h1]; omega, ?_⟩
  rcases h2 with ⟨he, _⟩ | ⟨g', cap, cur, he, hg, hh, hn, hc, hs, ht⟩
  · cases he
  · injection he with he1 he2 he3
    injection he1 with he1
    injection he1 with he1
    subst he1; subst he3
    refine .inr ⟨_, _, cur, rfl, hg, hh, by omega, hc, hs, ?_⟩
    rw [← ht, List.take_take, Nat.mul_one, Nat.mul_one, Nat.min_eq_left hm]
theorem backs_snd {α : Type} (d : α) (ys : List α) : (backs d ys).map (·.2) = ys.reverse := by
  apply List.ext_getElem
  · simp [backs]
  · intro i h1 h2
    simp only [List.length_reverse] at h2
    simp [backs, List.getD_eq_getElem?_getD]
    rw [List.getElem?_eq_getElem (by omega)]
    rfl
def val (x : ByteArray) (pre : List (Nat × ByteArray)) : ByteArray := (pre.map (·.2)).foldl (fun o r => dN r o) x
theorem val_snoc (x : ByteArray) (pre : List (Nat × ByteArray)) (p : Nat × ByteArray) : val x (pre ++ [p]) = dN p.2 (val x pre) := by simp [val]
theorem val_size (x : ByteArray) (hx : x.size = 32) (pre : List (Nat × ByteArray)) : (val x pre).size = 32 := by
  rcases List.eq_nil_or_concat pre with rfl | ⟨l, p, rfl⟩
  · exact hx
  · rw [List.concat_eq_append, val_snoc]; exact hash_size _
theorem fold_is (x : ByteArray) (l : List ByteArray) : Tree.foldR dN x l = l.foldl (fun o r => dN r o) x := by
  induction l generalizing x with
  | nil => rfl
  | cons r l ih => rw [Tree.foldR, ih]; rfl
theorem info9 : (Tryd.prog.info? 9).map (fun i => (i.zero, i.size, i.bytes)) = some (some (.string ⟨#[]⟩), 1, 16) := by kernel_rfl
theorem info3' : (Tryd.prog.info? 3).map (fun i => (i.zero, i.size, i.bytes)) = some (some (.int .i64 0), 1, 8) := by kernel_rfl
set_option maxRecDepth 100000 in
set_option maxHeartbeats 1000000 in
theorem Root_walk (A : Option Addr) (c : Nat) (l : List ByteArray) (w : World) (hG : GL w) (hr : Kd.C Kd.string w A l.length l) (hc : l.length ≤ c) (hn : l.length ≤ 1000000) (hs : ∀ x ∈ l, x.size ≤ 140737488349000) :
    Calls Tryd.prog 19 #[.slice A l.length c] w fun e w' => e = .returned (.string (Tree.root dE dL dN l)) ∧ Below w.heap.size w w' := by
  obtain ⟨i0, hi, hz0, hz1, hz2⟩ := info_parts info9
  obtain ⟨j0, hj, hy0, hy1, hy2⟩ := info_parts info3'
  refine calls_of_wp_marks Tryd.func19 rfl ?_
  simp only [Tryd.ntmps19, List.size_toArray, List.length_cons, List.length_nil, Nat.reduceAdd, Nat.reduceSub, Array.replicate_succ, Array.replicate_zero, List.push_toArray, List.append_toArray, List.nil_append, List.cons_append]
  obtain ⟨n, hnl⟩ : ∃ n, l.length = n := ⟨_, rfl⟩
  rw [hnl] at hr hc hn
  rw [hnl]
  have HR := Lib.hid hr
  have HN := Lib.hid hnl
  have HG := Lib.hid hG
  have HS := Lib.hid hs
  clear hr hnl hG hs
  have hi64 : (n : Int) ≤ 1000000 := by omega
  go_wp2
  go_loopw [13, 3, 4] (fun i v3 v4 wr => ∃ (k : Nat) (st : List (ByteArray × Nat)), k ≤ n ∧ i = .int .i64 (k : Int) ∧ Hid (Tree.StackR dE dL dN st (l.take k)) ∧ Hid (Stk wr w.heap.size v3 v4 st) ∧ Below w.heap.size w wr) (fun i v3 v4 wr => n - (intOf i).toNat)
  case atStart => exact ⟨0, [], by omega, rfl, Lib.hid .nil, Lib.hid ⟨World.ownsRow_nil _ _ _ _, World.ownsRow_nil _ _ _ _⟩, Below.refl _ _⟩
  case round =>
    obtain ⟨k, st, hk, rfl, hst, hstk, hbel⟩ := hrel
    by_cases hlt : k < n
    · obtain ⟨x, hx⟩ : ∃ x, l[k]? = some x := ⟨l[k]'(by rw [HN.out]; exact hlt), List.getElem?_eq_getElem _⟩
      obtain ⟨ad, hA, hcc⟩ := HR.out.2.2 (by omega)
      subst hA
      have hcell : wr.cell? (ad.add k) = some (.string x) := by
        have h0 := strs_cell HR.out hx
        rw [hbel.cell (World.block_lt_of_cell? w _ h0)]
        exact h0
      have hxs : x.size ≤ 140737488349000 := HS.out x (List.mem_of_getElem? hx)
      have HX := Lib.hid hx
      clear hx hcc
      obtain ⟨q, hq⟩ : ∃ q, st.length = q := ⟨_, rfl⟩
      have hqk : q ≤ k := by
        have := stack_len _ _ _ hst.out
        rw [hq] at this
        exact Nat.le_trans this (List.length_take_le _ _)
      obtain ⟨ws, hws⟩ : ∃ ws, (st.reverse.map (·.1)).map Value.string = ws := ⟨_, rfl⟩
      obtain ⟨zs, hzs⟩ : ∃ zs, (st.reverse.map (·.2)).map (fun x : Nat => Value.int .i64 (x : Int)) = zs := ⟨_, rfl⟩
      have HW := Lib.hid (And.intro hq (And.intro hws hzs))
      have ho3 := hstk.out.1
      have ho4 := hstk.out.2
      rw [hq, hws] at ho3
      rw [hq, hzs] at ho4
      have HO := Lib.hid (And.intro ho3 ho4)
      have hNr : w.heap.size ≤ wr.heap.size := hbel.size
      have hGr := HG.out.below hbel
      have HGr := Lib.hid hGr
      clear hq hws hzs ho3 ho4 hGr
      go_upto_region 7 with (first | (go_at_call 29; refine (Leaf_walk x hxs _ HGr.out).mono ?_; rintro e w1 ⟨rfl, hb1⟩) | (at_builtin; refine wpList_append_own _ (by rfl) (.tmp 17) (.tmp 20) 22 (by rfl) w.heap.size 9 i0 _ 1 16 Tryd.underlying22 hi hz0 hz1 hz2 (by rfl) (by decide) u3 q ws (by rfl) ((own_keep HO.out.1 hb1).alloc _) ⟨w1.heap.size, 0, none⟩ 1 1 [.string (dL x)] (by rfl) rfl (cell_one_new _ _ _) (by simp [Value.oneCell']) (by unfold maxLen; omega) (by omega) (by have := hb1.size; simp; omega) ?_; intro v3' w2 hown3 hg3 hnil3; have HA := Lib.hid (((own_keep HO.out.2 hb1).alloc (.cells #[.string (dL x)] 9)).kept hg3 (rows_ne ((own_keep HO.out.1 hb1).alloc (.cells #[.string (dL x)] 9)) ((own_keep HO.out.2 hb1).alloc (.cells #[.string (dL x)] 9)) (by decide)))) | (at_builtin; refine wpList_append_own _ (by rfl) (.tmp 22) (.tmp 23) 49 (by rfl) w.heap.size 3 j0 _ 1 8 Tryd.underlying49 hj hy0 hy1 hy2 (by rfl) (by decide) u4 q zs (by rfl) (HA.out.alloc _) ⟨w2.heap.size, 0, none⟩ 1 1 [.int .i64 1] (by rfl) rfl (cell_one_new _ _ _) (by simp [Value.oneCell']) (by unfold maxLen; omega) (by omega) (by have := hb1.size; have := hg3.size; simp at this ⊢; omega) ?_; intro v4' w3 hown4 hg4 hnil4) | fail)
      obtain ⟨hstk3, hb3⟩ := stk_grown (st := st) (st' := st) (y := dL x) (m := 1) (N := w.heap.size) (by have := hb1.size; omega) (by have := own_keep HO.out.1 hb1; rw [← HW.out.2.1, ← HW.out.1] at this; exact this) (by have := own_keep HO.out.2 hb1; rw [← HW.out.2.2, ← HW.out.1] at this; exact this)
        (by have := hown3; rw [← HW.out.2.1, ← HW.out.1] at this; exact this) hg3 (by have := hown4; rw [← HW.out.2.2, ← HW.out.1] at this; exact this) hg4 (by have := HA.out; rw [← HW.out.2.2, ← HW.out.1] at this; exact this)
      have hl1 : Tree.Loose dE dL dN ((dL x, 1) :: st) (l.take (k + 1)) := by
        have h1 := Tree.StackR.push dE dL dN hst.out x
        rw [List.take_add_one, HX.out]
        exact h1
      have hbel3 : Below w.heap.size w w3 := (hbel.trans (hb1.mono hNr)).trans hb3
      have HL := Lib.hid hl1
      have HS3 := Lib.hid hstk3
      clear hstk3 hl1 hown3 hg3 hnil3 HA hown4 hg4 hnil4 hb3 hb1 HO HW hstk hst HGr
      obtain ⟨st1, hst1⟩ : ∃ st1, (dL x, 1) :: st = st1 := ⟨_, rfl⟩
      rw [hst1] at HL HS3
      clear hst1 hqk hbel hNr
      -- the length
      have hown : w3.ownsRow w.heap.size 3 1 v4' st1.length ((st1.reverse.map (·.2)).map fun x : Nat => Value.int .i64 (x : Int)) := HS3.out.2
      obtain ⟨q1, hq1⟩ : ∃ q1, st1.length = q1 := ⟨_, rfl⟩
      have hq1k : 0 < q1 ∧ q1 ≤ k + 1 := by
        have := loose_len _ _ _ HL.out
        rw [hq1] at this
        exact ⟨this.1, Nat.le_trans this.2 (List.length_take_le _ _)⟩
      rw [hq1] at hown
      obtain ⟨g4, c4, hv4⟩ : ∃ g cap, v4' = .slice (some ⟨g, 0, none⟩) q1 cap := by
        obtain ⟨p, rfl⟩ : ∃ p, q1 = p + 1 := ⟨q1 - 1, by omega⟩
        exact ownsRow_succ hown
      have HQ1 := Lib.hid hq1
      clear hown hq1
      subst hv4
      go_wp2
      obtain ⟨wo, rfl⟩ : ∃ wo : World, wo = w3 := ⟨_, rfl⟩
      go_loopw [7, 3, 4] (fun i v3 v4 wr => ∃ (st2 : List (ByteArray × Nat)) (q : Nat), 0 < q ∧ q ≤ k + 1 ∧ i = .int .i64 (q : Int) ∧ Hid (st2.length = q) ∧ Hid (Tree.Loose dE dL dN st2 (l.take (k + 1))) ∧ Hid (Stk wr w.heap.size v3 v4 st2) ∧ Below w.heap.size w wr) (fun i v3 v4 wr => (intOf i).toNat)
      case atStart => exact ⟨st1, q1, hq1k.1, hq1k.2, rfl, HQ1, HL, HS3, hbel3⟩
      case round =>
        clear HL HS3 hbel3 HQ1 hq1k
        obtain ⟨st2, q, hq0, hqk, rfl, hq, HL, HS2, hbel2⟩ := hrel
        by_cases h1 : q = 1
        · subst h1
          have d1 : decide ((1 : Int) < ((1 : Nat) : Int)) = false := by decide
          have hst3 : Tree.StackR dE dL dN st2 (l.take (k + 1)) := by
            have h := hq.out
            match st2, h, HL with
            | [x2], _, HL => exact Tree.Loose.single _ _ _ HL.out
          have HST := Lib.hid hst3
          have hs2 : Stk wr.drew w.heap.size u3 u4 st2 := HS2.out
          clear hst3 hs2
          go_wp2
          go_quiet (fail)
          go_wp2
          go_roundw
          case rel => exact ⟨k + 1, st2, by omega, by go_num, HST, Lib.hid HS2.out, below_dN hbel2 _⟩
          case measure => simp [intOf]; omega
        · have d1 : decide ((1 : Int) < (q : Int)) = true := decide_eq_true (by omega)
          obtain ⟨x2, y2, rest, hst2⟩ : ∃ x2 y2 rest, st2 = x2 :: y2 :: rest := by
            have h := hq.out
            match st2, h with
            | [], h => simp at h; omega
            | [a], h => simp at h; omega
            | a :: b :: r, h => exact ⟨a, b, r, rfl⟩
          subst hst2
          obtain ⟨a, ha⟩ : ∃ a, rest.length = a := ⟨_, rfl⟩
          have hqa : q = a + 2 := by have := hq.out; simp at this; omega
          have ho3 := HS2.out.1
          have ho4 := HS2.out.2
          rw [hq.out] at ho3 ho4
          obtain ⟨g3, c3, hv3⟩ : ∃ g cap, u3 = .slice (some ⟨g, 0, none⟩) q cap := by subst hqa; exact ownsRow_succ ho3
          obtain ⟨g4, c4, hv4⟩ : ∃ g cap, u4 = .slice (some ⟨g, 0, none⟩) q cap := by subst hqa; exact ownsRow_succ ho4
          subst hv3
          subst hv4
          obtain ⟨b, hb⟩ : ∃ b, b = a + 1 := ⟨_, rfl⟩
          have e3 := ho3.cells (g := g3) rfl
          have e4 := ho4.cells (g := g4) rfl
          have s4a : wr.cell? ⟨g4, a, none⟩ = some (.int .i64 (y2.2 : Int)) := by
            have := e4 a (.int .i64 (y2.2 : Int)) (by simp [ha])
            rwa [Addr.add_mid, Nat.zero_add] at this
          have s4b : wr.cell? ⟨g4, b, none⟩ = some (.int .i64 (x2.2 : Int)) := by
            rw [hb]
            have := e4 (a + 1) (.int .i64 (x2.2 : Int)) (by simp [ha])
            rwa [Addr.add_mid, Nat.zero_add] at this
          have s3a : wr.cell? ⟨g3, a, none⟩ = some (.string y2.1) := by
            have := e3 a (.string y2.1) (by simp [ha])
            rwa [Addr.add_mid, Nat.zero_add] at this
          have s3b : wr.cell? ⟨g3, b, none⟩ = some (.string x2.1) := by
            rw [hb]
            have := e3 (a + 1) (.string x2.1) (by simp [ha])
            rwa [Addr.add_mid, Nat.zero_add] at this
          have i0' : (0 : Int) ≤ (a : Int) := by omega
          have g1 : IntKind.i64.wrap ((q : Int) - 2) = (a : Int) := iw (by omega) (by omega)
          have g2 : IntKind.i64.wrap ((q : Int) - 1) = (b : Int) := iw (by omega) (by omega)
          have b1 : (a : Int) < (q : Int) := by omega
          have b2 : (b : Int) < (q : Int) := by omega
          have b3 : (0 : Int) ≤ (b : Int) := by omega
          have HO := Lib.hid (And.intro ho3 ho4)
          have HA := Lib.hid (And.intro ha (And.intro hqa hb))
          clear ho3 ho4 e3 e4 ha hqa hb
          by_cases heq : y2.2 = x2.2
          · have qe : ((y2.2 : Int) == (x2.2 : Int)) = true := by simp [heq]
            have HEQ := Lib.hid heq
            clear heq
            go_wp2
            go_quiet (fail)
            go_wp2
            have hcap3 : q ≤ c3 := by
              rcases HO.out.1.2 with ⟨he, _⟩ | ⟨g', cap, cur, he, _, _, hn', _⟩
              · cases he
              · injection he with _ _ he3; omega
            have hcap4 : q ≤ c4 := by
              rcases HO.out.2.2 with ⟨he, _⟩ | ⟨g', cap, cur, he, _, _, hn', _⟩
              · cases he
              · injection he with _ _ he3; omega
            have hac3 : (a : Int) ≤ (c3 : Int) := by omega
            have hac4 : (a : Int) ≤ (c4 : Int) := by omega
            have haq := HA.out.2.1
            have HAQ := Lib.hid haq
            clear haq
            have haq2 : a + 2 ≤ q := by rw [HAQ.out]; exact Nat.le_refl _
            have hmem := loose_mem _ _ _ HL.out
            have hy32 : y2.1.size = 32 := by
              obtain ⟨t, h1, _⟩ := hmem y2 (by simp)
              rw [h1]; exact root_size _
            have hx32 : x2.1.size = 32 := by
              obtain ⟨t, h1, _⟩ := hmem x2 (by simp)
              rw [h1]; exact root_size _
            have hxy : y2.1.size + x2.1.size ≤ 140737488349000 := by omega
            have hx2n : x2.2 ≤ 1000000 := by
              obtain ⟨t, _, h2, h3⟩ := hmem x2 (by simp)
              rw [h2]
              have := List.length_take_le (k + 1) l
              have := HN.out
              omega
            have hGq : GL (wr.drewN (nq + 1)) := HG.out.below (below_dN hbel2 (nq + 1))
            have HGq := Lib.hid hGq
            have hNq : w.heap.size ≤ wr.heap.size := hbel2.size
            clear hmem hy32 hx32 hGq
            obtain ⟨ws, hws⟩ : ∃ ws, ((x2 :: y2 :: rest).reverse.map (·.1)).map Value.string = ws := ⟨_, rfl⟩
            obtain ⟨zs, hzs⟩ : ∃ zs, ((x2 :: y2 :: rest).reverse.map (·.2)).map (fun x : Nat => Value.int .i64 (x : Int)) = zs := ⟨_, rfl⟩
            have ho3 := HO.out.1
            have ho4 := HO.out.2
            rw [hws] at ho3
            rw [hzs] at ho4
            have HOO := Lib.hid (And.intro (own_take ho3 (show a ≤ q by omega)) (And.intro ho3 ho4))
            have HWZ := Lib.hid (And.intro hws hzs)
            clear ho3 ho4 hws hzs HO
            refine wp_region_noPanic ?_
            go_region_law (first | (go_simp; go_at_call 32; refine (Node_walk y2.1 x2.1 hxy _ HGq.out).mono ?_; rintro e w4 ⟨rfl, hb4⟩; have HW4 := Lib.hid (own_keep (w := wr.drewN (nq + 1)) HOO.out.1 hb4)) | (refine step_append_lies _ (by rfl) (.tmp 47) (.tmp 59) 22 (by rfl) w.heap.size 9 i0 _ 1 16 Tryd.underlying22 hi hz0 hz1 hz2 (by rfl) (by decide) (.slice (some ⟨g3, 0, none⟩) a c3) a (ws.take a) (by rfl) (HW4.out.alloc _) ⟨w4.heap.size, 0, none⟩ 1 1 [.string (dN y2.1 x2.1)] (by rfl) rfl (cell_one_new _ _ _) (by simp [Value.oneCell']) (by decide) (by unfold maxLen; omega) (by omega) (by have := hb4.size; simp at this ⊢; omega) (w4.heap.size + 1) (by simp) ?_; intro g5 c5 w5 hown5 hg5 hat5 hlt5) | fail)
            all_goals
              refine NoPanic.normal ?_
              have hown4' : w5.ownsRow w.heap.size 3 1 (.slice (some ⟨g4, 0, none⟩) q c4) q zs := ((own_keep (w := wr.drewN (nq + 1)) HOO.out.2.2 hb4).alloc (.cells #[.string (dN y2.1 x2.1)] 9)).kept hg5 (rows_ne (HW4.out.alloc (.cells #[.string (dN y2.1 x2.1)] 9)) ((own_keep (w := wr.drewN (nq + 1)) HOO.out.2.2 hb4).alloc (.cells #[.string (dN y2.1 x2.1)] 9)) (by decide))
              have hx5 : w5.cell? ⟨g4, b, none⟩ = some (.int .i64 (x2.2 : Int)) := by
                have hz := HWZ.out.2
                have := hown4'.cells (g := g4) rfl b (.int .i64 (x2.2 : Int)) (by rw [← hz, HA.out.2.2]; simp [HA.out.1])
                rwa [Addr.add_mid, Nat.zero_add] at this
              have hN5 : w.heap.size ≤ w5.heap.size := by
                have h1 := hb4.size
                have h2 := hg5.size
                simp at h1 h2
                omega
              obtain ⟨m2, hm2⟩ : ∃ m, m = 2 * x2.2 := ⟨_, rfl⟩
              have g5' : IntKind.i64.wrap (2 * (x2.2 : Int)) = (m2 : Int) := iw (by omega) (by omega)
              have HM2 := Lib.hid hm2
              clear hm2
              have HW5 := Lib.hid (own_take hown4' (show a ≤ q by omega))
              have HX5 := Lib.hid hown4'
              clear hown4'
              go_wp2
              refine wp_region_noPanic ?_
              go_region_law (first | (refine step_append_lies _ (by rfl) (.tmp 64) (.tmp 71) 49 (by rfl) w.heap.size 3 j0 _ 1 8 Tryd.underlying49 hj hy0 hy1 hy2 (by rfl) (by decide) (.slice (some ⟨g4, 0, none⟩) a c4) a (zs.take a) (by rfl) (HW5.out.alloc _) ⟨w5.heap.size, 0, none⟩ 1 1 [.int .i64 (m2 : Int)] (by rfl) rfl (cell_one_new _ _ _) (by simp [Value.oneCell']) (by decide) (by unfold maxLen; omega) (by omega) (by simp; omega) (w5.heap.size + 1) (by simp) ?_; intro g6 c6 w6 hown6 hg6 hat6 hlt6) | fail)
              refine NoPanic.normal ?_
              have hg6' : (w5.alloc (.cells #[.int .i64 (m2 : Int)] 3)).grownBy w6 (Value.slice (some ⟨g4, 0, none⟩) a c4).ownBlock := ⟨hg6.os, hg6.tape, hg6.output, hg6.size, hg6.block⟩
              clear hg6
              go_wp2
              go_roundw
              case rel =>
                have t3 : ws.take a = (rest.reverse.map (·.1)).map Value.string := by rw [← HWZ.out.1, ← HA.out.1]; simp
                have t4 : zs.take a = (rest.reverse.map (·.2)).map (fun x : Nat => Value.int .i64 (x : Int)) := by rw [← HWZ.out.2, ← HA.out.1]; simp
                have hjoin := Tree.Loose.join _ _ _ HL.out HEQ.out
                rw [← HM2.out] at hjoin
                refine ⟨(dN y2.1 x2.1, m2) :: rest, b, by have := HA.out.2.2; omega, by have := HA.out.2.2; omega, rfl, Lib.hid (by have := HA.out; simp; omega), Lib.hid hjoin, Lib.hid ⟨?_, ?_⟩, ?_⟩
                · have := (hown5.alloc (.cells #[.int .i64 (m2 : Int)] 3)).kept hg6' (rows_ne (HW5.out.alloc (.cells #[.int .i64 (m2 : Int)] 3)) (hown5.alloc (.cells #[.int .i64 (m2 : Int)] 3)) (by decide))
                  rw [t3] at this
                  have hl : ((dN y2.1 x2.1, m2) :: rest).length = a + 1 := by rw [List.length_cons, HA.out.1]
                  rw [hl]
                  simpa using this
                · have := hown6
                  rw [t4] at this
                  have hl : ((dN y2.1 x2.1, m2) :: rest).length = a + 1 := by rw [List.length_cons, HA.out.1]
                  rw [hl]
                  simpa using this
                · have b1 : Below w.heap.size w w4 := (below_dN hbel2 (nq + 1)).trans (hb4.mono hNq)
                  have hs4 : w.heap.size ≤ w4.heap.size := b1.size
                  have b2 : Below w.heap.size w w5 := Below.grown (b1.alloc hs4 _) hg5 (by simp; omega) (own_base' HW4.out)
                  exact Below.grown (b2.alloc hN5 _) hg6' (by simp; omega) (own_base' HW5.out)
              case measure => have := HA.out; simp [intOf]; omega
          · have qe : ((y2.2 : Int) == (x2.2 : Int)) = false := by simp; omega
            have hst3 := Tree.Loose.stop _ _ _ HL.out heq
            have HST := Lib.hid hst3
            clear hst3 heq
            go_wp2
            go_quiet (fail)
            go_wp2
            go_roundw
            case rel => exact ⟨k + 1, _, by omega, by go_num, HST, Lib.hid HS2.out, below_dN hbel2 _⟩
            case measure => simp [intOf]; omega
    · obtain rfl : k = n := by omega
      have htk : l.take k = l := by rw [List.take_of_length_le (by rw [HN.out]; exact Nat.le_refl _)]
      have hst' := hst.out
      rw [htk] at hst'
      have hG1 := HG.out.below hbel
      have HG1 := Lib.hid hG1
      clear hG1 htk hst
      match st, hst', hstk with
      | [], hst', hstk =>
        cases hst'
        have h3 : ∃ A' c', u3 = .slice A' 0 c' := by
          rcases hstk.out.1.2 with ⟨h, _⟩ | ⟨g, cap, cur, h, _⟩
          · exact ⟨_, _, h⟩
          · exact ⟨_, _, h⟩
        obtain ⟨A', c', rfl⟩ := h3
        have hsz0 : (⟨#[]⟩ : ByteArray).size ≤ 140737488350000 := by decide
        go_wp2_with (first | (go_at_call 30; refine (Sum_walk ⟨#[]⟩ hsz0 _ HG1.out).mono ?_; rintro e w9 ⟨rfl, hb9⟩) | fail)
        refine ⟨_, results_tmp rfl _ _ _, ?_, hbel.trans (hb9.mono hbel.size)⟩
        rw [Tree.root_nil]
        rfl
      | x :: rest, hst', hstk =>
        have HST := Lib.hid hst'
        clear hst'
        obtain ⟨q, hq⟩ : ∃ q, rest.length = q := ⟨_, rfl⟩
        have ho3 := hstk.out.1
        rw [List.length_cons, hq] at ho3
        obtain ⟨g3, c3, hv3⟩ : ∃ g cap, u3 = .slice (some ⟨g, 0, none⟩) (q + 1) cap := ownsRow_succ ho3
        subst hv3
        have hqn : q + 1 ≤ 1000000 := by
          have := stack_len _ _ _ HST.out
          rw [List.length_cons, hq, HN.out] at this
          omega
        have hxl : wr.cell? ⟨g3, q, none⟩ = some (.string x.1) := by
          have := ho3.cells (g := g3) rfl q (.string x.1) (by simp [hq])
          rwa [Addr.add_mid, Nat.zero_add] at this
        have hcap : q + 1 ≤ c3 := by
          rcases ho3.2 with ⟨he, _⟩ | ⟨g', cap, cur, he, _, _, hn', _⟩
          · cases he
          · injection he with _ _ he3; omega
        have hqc : (q : Int) ≤ (c3 : Int) := by omega
        have HQ := Lib.hid hq
        have HO := Lib.hid ho3
        clear hq ho3
        go_wp2_with (first | (go_at_call 44; refine (back_walk _ _ _ _).mono ?_; rintro e w9 ⟨rfl, rfl⟩) | fail)
        obtain ⟨cur, hcur, hct⟩ : ∃ cur : Array Value, Blk wr g3 9 cur.toList ∧ cur.toList.take (q + 1) = (((x :: rest).reverse.map (·.1)).map Value.string) := by
          rcases HO.out.2 with ⟨he, _⟩ | ⟨g', cap, cur, he, _, hh, _, _, _, ht⟩
          · cases he
          · injection he with he1
            injection he1 with he1
            injection he1 with he1
            subst he1
            exact ⟨cur, by simpa [Blk] using hh, by rw [Nat.mul_one] at ht; exact ht⟩
        have hys : ∀ (j : Nat) (y : ByteArray), (rest.map (·.1)).reverse[j]? = some y → cur.toList[j]? = some (Value.string y) := by
          intro j y hj
          have hjq : j < q := by have := (List.getElem?_eq_some_iff.1 hj).1; simp [HQ.out] at this; exact this
          have h1 : (cur.toList.take (q + 1))[j]? = some (Value.string y) := by
            rw [hct]
            simp only [List.reverse_cons, List.map_append, List.map_reverse, List.map_map]
            rw [List.getElem?_append_left (by simp [HQ.out]; omega)]
            rw [← List.map_map, ← List.map_reverse, List.getElem?_map, hj]
            rfl
          rw [List.getElem?_take] at h1
          rw [if_pos (by omega)] at h1
          exact h1
        have hgw : g3 < wr.heap.size := hcur.lt
        have hB0 : Blk ((wr.alloc (.cells #[.string x.1] 9)).alloc (.cells #[.slice (some ⟨g3, 0, none⟩) q c3] 22)) (wr.heap.size + 1) 22 [.slice (some ⟨g3, 0, none⟩) q c3] := cast_blk (Blk.newA _ _ _ _ rfl) (by simp)
        have hO0 : Blk ((wr.alloc (.cells #[.string x.1] 9)).alloc (.cells #[.slice (some ⟨g3, 0, none⟩) q c3] 22)) wr.heap.size 9 [.string x.1] := (Blk.newA _ _ _ _ rfl).alloc _
        have hC0 : Blk ((wr.alloc (.cells #[.string x.1] 9)).alloc (.cells #[.slice (some ⟨g3, 0, none⟩) q c3] 22)) g3 9 cur.toList := (hcur.alloc _).alloc _
        have hsz0 : ((wr.alloc (.cells #[.string x.1] 9)).alloc (.cells #[.slice (some ⟨g3, 0, none⟩) q c3] 22)).heap.size = wr.heap.size + 2 := by simp
        have hbW : Below wr.heap.size wr ((wr.alloc (.cells #[.string x.1] 9)).alloc (.cells #[.slice (some ⟨g3, 0, none⟩) q c3] 22)) := ((Below.refl _ _).alloc (Nat.le_refl _) _).alloc (by simp) _
        have hgiv := back1_gives (wr.heap.size + 1) g3 q c3 9 (rest.map (·.1)).reverse (by simp [HQ.out]) (by omega) cur.toList hys _ hB0 hC0
        have hGW0 := HG1.out.below hbW
        have h32 : ∀ y ∈ x :: rest, y.1.size = 32 := by
          intro y hy
          obtain ⟨t, h1, _⟩ := stack_mem _ _ _ HST.out y hy
          rw [h1]; exact root_size _
        have HH := Lib.hid (And.intro hys (And.intro hct (And.intro h32 hGW0)))
        clear hys hct h32 hGW0 hcur
        generalize ((wr.alloc (.cells #[.string x.1] 9)).alloc (.cells #[.slice (some ⟨g3, 0, none⟩) q c3] 22)) = W0 at *
        refine wp_rangeFunc_one (gf := 60) (lb := #[.pointer (some ⟨wr.heap.size + 1, 0, none⟩)]) rfl (enters_of Tryd.func60 (by kernel_rfl) rfl) (KS := fun k => k = wr.heap.size + 1 ∨ k = g3) (by intro k hk; omega) hgiv (Below.refl _ _) (fun _ => rfl)
          (fun pre W => Blk W wr.heap.size 9 [.string (val x.1 pre)] ∧ W0.grownBy W (some wr.heap.size)) (OwnFrom.and (own_blk _ (by omega)) (own_grown _ (Nat.le_refl _))) ⟨hO0, ⟨rfl, rfl, rfl, Nat.le_refl _, fun _ _ _ => rfl⟩⟩ ?body ?done
        case body =>
          intro l' pre p W hI hpre
          obtain ⟨hbW1, hgr⟩ := hI
          have hp32 : p.2.size = 32 := by
            have h1 : p ∈ backs ⟨#[]⟩ (rest.map (·.1)).reverse := hpre.subset (by simp)
            have h2 : p.2 ∈ (backs ⟨#[]⟩ (rest.map (·.1)).reverse).map (·.2) := List.mem_map.2 ⟨p, h1, rfl⟩
            rw [backs_snd, List.reverse_reverse] at h2
            obtain ⟨y, hy, he⟩ := List.mem_map.1 h2
            rw [← he]
            exact HH.out.2.2.1 y (List.mem_cons_of_mem _ hy)
          have hv32 := val_size x.1 (HH.out.2.2.1 x (by simp)) pre
          obtain ⟨v, hv⟩ : ∃ v, val x.1 pre = v := ⟨_, rfl⟩
          rw [hv] at hbW1 hv32
          have HV := Lib.hid hv
          have hsz2 : p.2.size + v.size ≤ 140737488349000 := by omega
          have hGW : GL W := by
            intro i hi'
            have h0 := HH.out.2.2.2 i hi'
            have hlt := World.block_lt_of_cell? W0 _ h0
            have hlw := World.block_lt_of_cell? w _ (HG.out i hi')
            have hws := hbel.size
            have h1 := hgr.block 0 (by simpa using hlt) (fun e => by injection e with e; simp only at hlw; omega)
            rw [World.cell?_of_block (a := ⟨0, i, none⟩) h1]
            exact h0
          have HN2 := Lib.hid (Node_walk p.2 v hsz2 W hGW)
          have co : W.cell? ⟨wr.heap.size, 0, none⟩ = some (.string v) := hbW1.cell rfl
          clear hpre hgiv hv32 hp32 hv hGW
          simp only [roundAct, pair]
          simp
          gi_wp2_with fail
          refine ⟨trivial, ?_⟩
          refine CallsIn.mono (CallsIn.inRound l' ((callsIn_wide (n := 2)).2 HN2.out)) ?_
          rintro e W3 ⟨rfl, hb3⟩
          have hbW3 : Blk W3 wr.heap.size 9 [.string v] := hbW1.belowS hb3
          have co3 : W3.cell? ⟨wr.heap.size, 0, none⟩ = some (.string v) := hbW3.cell rfl
          have cf3 := hbW3.free 0
          gi_wp2
          have hg3' : W.grownBy (W3.setCell ⟨wr.heap.size, 0, none⟩ (.string (dN p.2 v))) (some wr.heap.size) := grown_trans (below_grown (B := 0) hb3 _) (grown_setCells (b := wr.heap.size) [_] 0 W3)
          refine ⟨keeps_grown hg3' (by omega), ?_, ?_, grown_trans hgr hg3'⟩
          · intro k' hk'
            exact hg3'.block k' (by have := hgr.size; omega) (fun e => by injection e; omega)
          · rw [val_snoc, HV.out]
            exact hbW3.set 0 _
        case done =>
          rintro D W hD ⟨hbW1, hgr⟩ hK
          have co : W.cell? ⟨wr.heap.size, 0, none⟩ = some (.string (val x.1 (backs ⟨#[]⟩ (rest.map (·.1)).reverse))) := hbW1.cell rfl
          go_wp2
          refine ⟨by simp, .inl ⟨_, _, rfl, run_takeDeferred hK, ?_⟩⟩
          have hgs := hgr.size
          have hws := hbel.size
          refine ⟨_, results_tmp rfl _ _ _, ?_, ?_⟩
          · rw [← Tree.StackR.fold dE dL dN HST.out, fold_is]
            show Ending.returned (.string (val x.1 (backs ⟨#[]⟩ (rest.map (·.1)).reverse))) = _
            unfold val
            rw [backs_snd, List.reverse_reverse]
          · have b1 : Below w.heap.size w W0 := hbel.trans (hbW.mono hws)
            have b2 : Below w.heap.size w W := grown_below hgr b1 hws (by omega)
            exact b2.trans (belowK_b (w := w) (Nat.le_refl _) W D _ _ (by omega) hK rfl rfl)
end Go.Proofs.YtlmlimihgohchaaDoor.Ext
end
