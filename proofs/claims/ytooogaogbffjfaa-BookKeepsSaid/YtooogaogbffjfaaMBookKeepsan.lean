import Derived.Test.YtooogaogbffjfaaMBookKeepsam
import Derived.LoopNIn
import Derived.LoopIn
import Derived.StillTailTactics
import Derived.ChangeKeysEq
/-
  Texts of this claim, one behind the other: what they prove stands above each.
-/
section
/-
  The closures of Statement and Owed; those.
-/
set_option linter.unusedVariables false
set_option linter.unusedSimpArgs false
namespace Go.Proofs.Ytooogaogbffjfaa.Ext
open Go.RowKit Go.Shelf Go.Proofs.YtooogaogbffjfaaW.PrintWords Go.Proofs.YtooogaogbffjfaaW.PrintLast Go.Proofs.YtooogaogbffjfaaW.PrintMore Go.Proofs.Ytooogaogbffjfaa.PK Go.Proofs.Ytooogaogbffjfaa.Bk
attribute [local go_sem] Oper.semAt_some
set_option maxRecDepth 100000 in
set_option maxHeartbeats 1000000 in
theorem st1_walk (M : Nat) (month : Int) (i : Int) (p : S27) (hd : 0 ≤ p.f1 ∧ p.f1 ≤ 359) (w : World) (hM : w.cell? ⟨M, 0, none⟩ = some (.int .i64 month)) :
    Calls Try.prog 34 #[.int .i64 i, .agg #[.int .i64 p.f0, .int .i64 p.f1, .int .i64 p.f2, .int .i64 p.f3, .int .i64 p.f4, .int .i64 p.f5, .int .i64 p.f6], .pointer (some ⟨M, 0, none⟩)] w fun e w' => e = .returned (.bool (p.f1 / 30 == month)) ∧ Below w.heap.size w w' := by
  obtain ⟨q, hq⟩ : ∃ q, p.f1 / 30 = q := ⟨_, rfl⟩
  have hw : IntKind.i64.wrap (p.f1.tdiv 30) = q := by rw [Int.tdiv_eq_ediv_of_nonneg hd.1, hq]; exact IntWalk.i64_in _ (by omega)
  rw [hq]
  have e1 : (w.alloc (.cells #[.int .i64 p.f0, .int .i64 p.f1, .int .i64 p.f2, .int .i64 p.f3, .int .i64 p.f4, .int .i64 p.f5, .int .i64 p.f6] 27)).cell? ⟨w.heap.size, 1, none⟩ = some (.int .i64 p.f1) := c_new _ _ _ _ _ _ rfl rfl
  have m1 := c_old (o := .cells #[.int .i64 p.f0, .int .i64 p.f1, .int .i64 p.f2, .int .i64 p.f3, .int .i64 p.f4, .int .i64 p.f5, .int .i64 p.f6] 27) hM
  clear hq hd hM
  go_enter Try.func34, Try.ntmps34
  go_wp2
  go_ret
  exact ⟨rfl, (Below.refl _ _).alloc (Nat.le_refl _) _⟩
set_option maxRecDepth 100000 in
set_option maxHeartbeats 1000000 in
theorem those_walk (B : Nat) (h : Nat) (lb : Array Value) (w : World) :
    Calls Try.prog 33 #[.pointer (some ⟨B, 0, none⟩), .func (.func h) #[] lb] w fun e w' => e = .returned (.func (.func 39) #[] #[.pointer (some ⟨w.heap.size, 0, none⟩), .pointer (some ⟨w.heap.size + 1, 0, none⟩)]) ∧ w' = (w.alloc (.cells #[.pointer (some ⟨B, 0, none⟩)] 52)).alloc (.cells #[.func (.func h) #[] lb] 66) := by
  go_enter Try.func33, Try.ntmps33
  go_wp2
  go_ret
  exact ⟨rfl, rfl⟩
def owedF (subject : Int) (bk : List Bool) (i : Nat) (p : S27) : Bool := !(p.f0 == 3) && (p.f5 == subject && !(bk.getD i false))
set_option maxRecDepth 100000 in
set_option maxHeartbeats 1000000 in
theorem ow1_walk (M L B : Nat) (acc clo : Int) (v : Value) (bk : List Bool) (subject : Int) (i : Nat) (hi : i < 200) (p : S27) (b : Bool) (hb : bk[i]? = some b) (w : World) (hM : w.cell? ⟨M, 0, none⟩ = some (.int .i64 subject)) (hL : w.cell? ⟨L, 0, none⟩ = some (.pointer (some ⟨B, 0, none⟩))) (hB : Led w B acc v clo bk) :
    Calls Try.prog 37 #[.int .i64 (i : Int), .agg #[.int .i64 p.f0, .int .i64 p.f1, .int .i64 p.f2, .int .i64 p.f3, .int .i64 p.f4, .int .i64 p.f5, .int .i64 p.f6], .pointer (some ⟨M, 0, none⟩), .pointer (some ⟨L, 0, none⟩)] w fun e w' => e = .returned (.bool (owedF subject bk i p)) ∧ Below w.heap.size w w' := by
  have e0 : (w.alloc (.cells #[.int .i64 p.f0, .int .i64 p.f1, .int .i64 p.f2, .int .i64 p.f3, .int .i64 p.f4, .int .i64 p.f5, .int .i64 p.f6] 27)).cell? ⟨w.heap.size, 0, none⟩ = some (.int .i64 p.f0) := c_new _ _ _ _ _ _ rfl rfl
  have e5 : (w.alloc (.cells #[.int .i64 p.f0, .int .i64 p.f1, .int .i64 p.f2, .int .i64 p.f3, .int .i64 p.f4, .int .i64 p.f5, .int .i64 p.f6] 27)).cell? ⟨w.heap.size, 5, none⟩ = some (.int .i64 p.f5) := c_new _ _ _ _ _ _ rfl rfl
  have m1 := c_old (o := .cells #[.int .i64 p.f0, .int .i64 p.f1, .int .i64 p.f2, .int .i64 p.f3, .int .i64 p.f4, .int .i64 p.f5, .int .i64 p.f6] 27) hM
  have l1 := c_old (o := .cells #[.int .i64 p.f0, .int .i64 p.f1, .int .i64 p.f2, .int .i64 p.f3, .int .i64 p.f4, .int .i64 p.f5, .int .i64 p.f6] 27) hL
  have b1 := c_old (o := .cells #[.int .i64 p.f0, .int .i64 p.f1, .int .i64 p.f2, .int .i64 p.f3, .int .i64 p.f4, .int .i64 p.f5, .int .i64 p.f6] 27) (led_back hB i b hb)
  have hg : bk.getD i false = b := by rw [List.getD_eq_getElem?_getD, hb]; rfl
  have hx5 : (i : Int) < 200 := by omega
  have hx4 : (0 : Int) ≤ (i : Int) := by omega
  unfold owedF
  rw [hg]
  have HBB := Lib.hid hB
  clear hb hM hL hB hg
  cases hk : (p.f0 != 3) with
  | false =>
    have hr : (!(p.f0 == 3) && (p.f5 == subject && !b)) = false := by rw [show (!(p.f0 == 3)) = (p.f0 != 3) from rfl, hk]; rfl
    rw [hr]
    clear hr
    go_enter Try.func37, Try.ntmps37
    go_wp2
    go_ret
    exact ⟨rfl, (Below.refl _ _).alloc (Nat.le_refl _) _⟩
  | true =>
    have hk3 : (p.f0 == 3) = false := by cases h : (p.f0 == 3) <;> simp_all [bne]
    cases hs : (p.f5 == subject) with
    | true =>
      have hr : (!(p.f0 == 3) && (true && !b)) = !b := by rw [hk3]; rfl
      rw [hr]
      clear hr hk3
      have hs5 : subject = p.f5 := (beq_iff_eq.1 hs).symm
      subst hs5
      clear hs
      go_enter Try.func37, Try.ntmps37
      go_wp2
      go_ret
      exact ⟨rfl, (Below.refl _ _).alloc (Nat.le_refl _) _⟩
    | false =>
      have hr : (!(p.f0 == 3) && (false && !b)) = false := by rw [hk3]; rfl
      rw [hr]
      clear hr hk3
      go_enter Try.func37, Try.ntmps37
      go_wp2
      go_ret
      exact ⟨rfl, (Below.refl _ _).alloc (Nat.le_refl _) _⟩
end Go.Proofs.Ytooogaogbffjfaa.Ext
end
section
/-
  The iterator that those gives.
-/
set_option linter.unusedVariables false
set_option linter.unusedSimpArgs false
namespace Go.Proofs.Ytooogaogbffjfaa.Ext
open Go.RowKit Go.Shelf Go.Proofs.YtooogaogbffjfaaW.PrintWords Go.Proofs.YtooogaogbffjfaaW.PrintLast Go.Proofs.YtooogaogbffjfaaW.PrintMore Go.Proofs.Ytooogaogbffjfaa.PK Go.Proofs.Ytooogaogbffjfaa.Bk
attribute [local go_sem] Oper.semAt_some
/-- the postings for which a function says yes, with their indices from i on -/
def thoseL (f : Nat → S27 → Bool) : Nat → List S27 → List S27
  | _, [] => []
  | i, p :: r => if f i p then p :: thoseL f (i + 1) r else thoseL f (i + 1) r
theorem thoseL_snoc (f : Nat → S27 → Bool) (l : List S27) (p : S27) : ∀ i, thoseL f i (l ++ [p]) = thoseL f i l ++ if f (i + l.length) p then [p] else [] := by
  induction l with
  | nil => intro i; simp [thoseL]
  | cons q r ih =>
    intro i
    have := ih (i + 1)
    rw [List.cons_append, thoseL, thoseL, this]
    have e : i + (q :: r).length = i + 1 + r.length := by simp; omega
    rw [e]
    split <;> simp
theorem thoseL_prefix (f : Nat → S27 → Bool) (l r : List S27) : ∀ i, thoseL f i l <+: thoseL f i (l ++ r) := by
  induction l with
  | nil => intro i; exact List.nil_prefix
  | cons q l ih =>
    intro i
    rw [List.cons_append, thoseL, thoseL]
    split
    · exact List.cons_prefix_cons.2 ⟨rfl, ih (i + 1)⟩
    · exact ih (i + 1)
abbrev pvA (p : S27) : Array Value := #[pv p]
theorem cell_of_kept {w W : World} {a : Addr} {v : Value} (h : W.heap[a.block]? = w.heap[a.block]?) (hc : w.cell? a = some v) : W.cell? a = some v := (World.cell?_of_block (a := a) h).trans hc
theorem kept_at {w W : World} {b o : Nat} {v : Value} (h : W.heap[b]? = w.heap[b]?) (hc : w.cell? ⟨b, o, none⟩ = some v) : W.cell? ⟨b, o, none⟩ = some v := (World.cell?_of_block (a := ⟨b, o, none⟩) h).trans hc
set_option maxRecDepth 100000 in
set_option maxHeartbeats 2000000 in
theorem those1_gives (B L isf : Nat) (lb : Array Value) (A : Option Addr) (n c : Nat) (ps : List S27) (hn : ps.length = n) (hn2 : n ≤ 1000000) (f : Nat → S27 → Bool) (KS : Nat → Prop) (w : World) (hKS : ∀ k, KS k → k < w.heap.size)
    (hL : w.cell? ⟨L, 0, none⟩ = some (.pointer (some ⟨B, 0, none⟩))) (hL1 : w.cell? ⟨L + 1, 0, none⟩ = some (.func (.func isf) #[] lb)) (hB : w.cell? ⟨B, 1, none⟩ = some (.slice A n c)) (hR : Kd.C k27 w A n ps)
    (kL : KS L) (kL1 : KS (L + 1)) (kB : KS B) (kA : ∀ ad, A = some ad → KS ad.block)
    (hen : ∀ args w, (callFunc isf args).run Try.prog w = .ok (.enter isf args) w) (his : ∀ (i : Nat) (p : S27) (W : World), ps[i]? = some p → (∀ k, KS k → W.heap[k]? = w.heap[k]?) → Calls Try.prog isf (#[.int .i64 (i : Int), pv p] ++ lb) W fun e w' => e = .returned (.bool (f i p)) ∧ Below W.heap.size W w') :
    GivesAllK Fence.wide 4 Try.prog 39 #[.pointer (some ⟨L, 0, none⟩), .pointer (some ⟨L + 1, 0, none⟩)] pvA (thoseL f 0 ps) KS w := fun l J W hW hJ hY h0 => by
  have hk0 : ∀ k, KS k → W.heap[k]? = w.heap[k]? := fun k hk => hW.block k (hKS k hk)
  have HM := Lib.hid hn
  have HI := Lib.hid his
  have HR := Lib.hid hR
  have HA := Lib.hid kA
  have HK0 := Lib.hid hk0
  have HC := Lib.hid (And.intro hL (And.intro hL1 hB))
  have HKL := Lib.hid (And.intro kL (And.intro kL1 kB))
  have cL : W.cell? ⟨L, 0, none⟩ = some (.pointer (some ⟨B, 0, none⟩)) := cell_of_kept (hk0 L kL) hL
  have cB : W.cell? ⟨B, 1, none⟩ = some (.slice A n c) := cell_of_kept (hk0 B kB) hB
  clear hn his hR kA hk0 hL hL1 hB kL kL1 kB
  refine callsIn_of_wp Try.func39 rfl trivial ?_ rfl
  simp only [Try.ntmps39, List.size_toArray, List.length_cons, List.length_nil, Nat.reduceAdd, Nat.reduceSub, Array.replicate_succ, Array.replicate_zero, List.push_toArray, List.append_toArray, List.nil_append, List.cons_append]
  gi_wp2
  clear cL cB
  gi_loopw [12] (fun i wr => ∃ k : Nat, k ≤ n ∧ i = .int .i64 (k : Int) ∧ J (thoseL f 0 (ps.take k)) wr ∧ ∀ k', KS k' → wr.heap[k']? = w.heap[k']?) (fun i wr => n - (intOf i).toNat)
  case atStart => exact ⟨0, by omega, rfl, by simpa [thoseL] using h0, HK0.out⟩
  case round =>
    obtain ⟨k, hk, rfl, hJk, hkr⟩ := hrel
    have HKR := Lib.hid hkr
    clear hkr
    by_cases hlt : k < n
    · have hki : (k : Int) < (n : Int) := by omega
      have hkl : k < ps.length := by rw [HM.out]; exact hlt
      obtain ⟨ad, rfl, y0, y1, y2, y3, y4, y5, y6⟩ := at_T27 HR.out (k : Int) (by omega) hki
      have hp : rd_T27 ps (k : Int) = ps[k] := by unfold rd_T27; rw [Int.toNat_natCast, List.getD_eq_getElem?_getD, List.getElem?_eq_getElem hkl]; rfl
      have hps : ps[k]? = some ps[k] := List.getElem?_eq_getElem hkl
      generalize ps[k] = p at *
      rw [hp] at y0 y1 y2 y3 y4 y5 y6
      rw [Int.toNat_natCast] at y0 y1 y2 y3 y4 y5 y6
      have hab : (ad.add (k * 7)).block = ad.block := by simp only [Addr.add]; split <;> rfl
      have hbl : wr.heap[(ad.add (k * 7)).block]? = w.heap[(ad.add (k * 7)).block]? := by rw [hab]; exact HKR.out ad.block (HA.out ad rfl)
      have x0 := cell_of_kept hbl y0
      have x1 := kept_at hbl y1
      have x2 := kept_at hbl y2
      have x3 := kept_at hbl y3
      have x4 := kept_at hbl y4
      have x5 := kept_at hbl y5
      have x6 := kept_at hbl y6
      have cL1 : (wr.alloc (.cells #[.int .i64 p.f0, .int .i64 p.f1, .int .i64 p.f2, .int .i64 p.f3, .int .i64 p.f4, .int .i64 p.f5, .int .i64 p.f6] 27)).cell? ⟨L + 1, 0, none⟩ = some (.func (.func isf) #[] lb) := c_old (cell_of_kept (HKR.out _ HKL.out.2.1) HC.out.2.1)
      have HPS := Lib.hid hps
      clear y0 y1 y2 y3 y4 y5 y6 hp hps hab hbl hkl
      have hd : ps.take (k + 1) = ps.take k ++ [p] := by rw [List.take_add_one, HPS.out]; rfl
      have hsn := thoseL_snoc f (ps.take k) p 0
      have hlk : 0 + (ps.take k).length = k := by rw [List.length_take, HM.out]; omega
      rw [hlk, ← hd] at hsn
      have HSN := Lib.hid hsn
      have HD := Lib.hid hd
      clear hsn hd hlk
      gi_wp2
      refine ⟨trivial, CallsIn.mono ((callsIn_wide (n := 3)).2 (HI.out k p _ HPS.out (fun k' hk' => (Below.heap_alloc _ _ _ (by have := HKR.out k' hk'; have h2 := hKS k' hk'; by_cases h3 : k' < wr.heap.size; exact h3; rw [Array.getElem?_eq_none (by omega), Array.getElem?_eq_getElem h2] at this; cases this)).trans (HKR.out k' hk')))) ?_⟩
      rintro e W2 ⟨rfl, hb2⟩
      have hwr : ∀ k', KS k' → k' < wr.heap.size := fun k' hk' => by
        have := HKR.out k' hk'; have h2 := hKS k' hk'; by_cases h3 : k' < wr.heap.size
        · exact h3
        · rw [Array.getElem?_eq_none (by omega), Array.getElem?_eq_getElem h2] at this; cases this
      have hk2 : ∀ k', KS k' → W2.heap[k']? = w.heap[k']? := fun k' hk' => (hb2.block k' (by have := hwr k' hk'; simp; omega)).trans ((Below.heap_alloc _ _ _ (hwr k' hk')).trans (HKR.out k' hk'))
      have HK2 := Lib.hid hk2
      have hg2 : wr.grownBy W2 none := grown_trans (World.grownBy_alloc wr _ none) (below_grown (B := 0) hb2 none)
      have hJ2 : J (thoseL f 0 (ps.take k)) W2 := hJ _ wr _ none hJk hg2 (fun r e => by cases e)
      have hbx : Blk (wr.alloc (.cells #[.int .i64 p.f0, .int .i64 p.f1, .int .i64 p.f2, .int .i64 p.f3, .int .i64 p.f4, .int .i64 p.f5, .int .i64 p.f6] 27)) wr.heap.size 27 [.int .i64 p.f0, .int .i64 p.f1, .int .i64 p.f2, .int .i64 p.f3, .int .i64 p.f4, .int .i64 p.f5, .int .i64 p.f6] := Blk.newA _ _ _ _ rfl
      have hbx2 := hbx.belowS hb2
      clear hk2 hbx hg2 hb2 hwr
      cases hf : f k p with
      | false =>
        have HF := Lib.hid hf
        clear hf hbx2
        gi_wp2
        refine ⟨(fun _ e => by cases e), ?_⟩
        gi_wp2
        go_roundw
        case rel =>
          refine ⟨k + 1, by omega, by go_num, ?_, HK2.out⟩
          rw [HSN.out, HF.out, if_neg (by decide), List.append_nil]
          exact hJ2
        case measure => simp [intOf]; omega
      | true =>
        have HF := Lib.hid hf
        clear hf
        have hsn := HSN.out
        rw [HF.out, if_pos rfl] at hsn
        have hpre : thoseL f 0 (ps.take k) ++ [p] <+: thoseL f 0 ps := by
          rw [← hsn]
          have := thoseL_prefix f (ps.take (k + 1)) (ps.drop (k + 1)) 0
          rwa [List.take_append_drop] at this
        obtain ⟨fn', tmps, assign, body, hy, hRR⟩ := hY (thoseL f 0 (ps.take k)) p W2 hJ2 hpre
        have HS2 := Lib.hid hsn
        have z0 := hbx2.cell (j := 0) rfl
        have z1 := hbx2.cell (j := 1) rfl
        have z2 := hbx2.cell (j := 2) rfl
        have z3 := hbx2.cell (j := 3) rfl
        have z4 := hbx2.cell (j := 4) rfl
        have z5 := hbx2.cell (j := 5) rfl
        have z6 := hbx2.cell (j := 6) rfl
        clear hsn hpre x0 x1 x2 x3 x4 x5 x6 cL1 HSN hbx2
        dsimp only [pvA] at hy
        unfold pv at hy
        gi_wp2
        refine hRR.mono ?_
        rintro e W3 ⟨rfl, hJ3, hk3⟩
        gi_wp2
        go_roundw
        case rel =>
          refine ⟨k + 1, by omega, by go_num, ?_, fun k' hk' => (hk3 k' hk').trans (HK2.out k' hk')⟩
          rw [HS2.out]
          exact hJ3
        case measure => simp [intOf]; omega
    · obtain rfl : k = n := by omega
      rw [List.take_of_length_le (by rw [HM.out]; exact Nat.le_refl _)] at hJk
      gi_wp2
      go_end0
      exact ⟨⟨_, rfl⟩, hJk⟩
end Go.Proofs.Ytooogaogbffjfaa.Ext
end
section
/-
  Balances: list.
-/
set_option linter.unusedVariables false
set_option linter.unusedSimpArgs false
namespace Go.Proofs.Ytooogaogbffjfaa.Ext
open Go.RowKit Go.Proofs.YtooogaogbffjfaaW.PrintWords Go.Proofs.YtooogaogbffjfaaW.PrintLast Go.Proofs.YtooogaogbffjfaaW.PrintMore Go.Proofs.Ytooogaogbffjfaa.PK Go.Proofs.Ytooogaogbffjfaa.Bk
attribute [local go_sem] Oper.semAt_some
theorem eq_items (cs : List Int) (is : List Nat) (h : ∀ i ∈ is, i < cs.length) (w : World) : (Op.eqItems 9999 3 1 (ints cs).toArray (ints (List.replicate cs.length 0)).toArray is).run Try.prog w = .ok (is.all fun i => cs.getD i 0 == 0) w := by
  induction is with
  | nil => simp [Op.eqItems]
  | cons i is ih =>
    have hi := h i (by simp)
    have ha : (part 3 (ints cs).toArray (i * 1)).run Try.prog w = .ok (.int .i64 (cs.getD i 0)) w := run_part_plain w (by kernel_rfl) (by simp [ints, List.getD_eq_getElem?_getD, hi])
    have hb : (part 3 (ints (List.replicate cs.length 0)).toArray (i * 1)).run Try.prog w = .ok (.int .i64 0) w := run_part_plain w (by kernel_rfl) (by simp [ints, hi])
    have he : (Op.equalIn 9999 3 (.int .i64 (cs.getD i 0)) (.int .i64 0)).run Try.prog w = .ok (cs.getD i 0 == 0) w := run_equalIn_int w 9998 _ .i64 .i64 _ _ Try.underlying3
    simp only [Op.eqItems, Sem.run_bind, ha, hb, he, Result.andThen_ok]
    cases hq : (cs.getD i 0 == 0) with
    | false => rw [List.all_cons, hq]; rfl
    | true =>
      have := ih (fun j hj => h j (by simp [hj]))
      rw [List.all_cons, hq, Bool.true_and, ← this]; rfl
theorem eq_zero16 (cs : List Int) (hl : cs.length = 16) (r : Bool) (hr : (List.range 16).all (fun i => cs.getD i 0 == 0) = r) (w : World) : (Op.equalIn 10000 63 (.agg (ints cs).toArray) (.agg (ints (List.replicate 16 0)).toArray)).run Try.prog w = .ok r w := by
  obtain ⟨i0, hi, _⟩ := Option.map_eq_some_iff.1 info3
  rw [run_equalIn_array w 9999 _ _ Try.underlying63 hi]
  have := eq_items cs (List.range 16) (fun i hi => by rw [hl]; exact List.mem_range.1 hi) w
  rw [hl, hr] at this
  exact this
theorem bal_reads {W : World} {g k : Nat} {bs : List Int} (hB : Blk W g 63 (ints bs)) (hl : bs.length = 16) (hk : k ≤ 16) : ReadsOf (Value.int .i64) (0 : Int) W (some ⟨g, 0, none⟩) k (bs.take k) :=
  ⟨by simp; omega, by omega, fun _ => ⟨⟨g, 0, none⟩, rfl, fun j hj => by
    have h := hB.cell (j := j) (ints_get (List.getElem?_eq_getElem (show j < bs.length by omega)))
    rw [List.getD_eq_getElem?_getD, List.getElem?_take_of_lt hj, List.getElem?_eq_getElem (show j < bs.length by omega)]
    have e : (⟨g, 0, none⟩ : Addr).add j = ⟨g, j, none⟩ := by simp only [Addr.add]; split <;> simp_all
    rw [e]; exact h⟩⟩
theorem slice16 (k : Nat) (hk : k ≤ 16) (g : Nat) (w : World) : (Instr.sliceAt 63 (.pointer (some ⟨g, 0, none⟩)) none (some (.int .i64 (k : Int))) none).run Try.prog w = .ok (.slice (some ⟨g, 0, none⟩) k 16) w := by
  have ha : Try.prog.arrayLen 63 = 16 := by kernel_rfl
  have he : Try.prog.elem 63 = 3 := by kernel_rfl
  obtain ⟨i0, hi, _⟩ := Option.map_eq_some_iff.1 info3
  rw [run_sliceAt_array_h w 63 ⟨g, 0, none⟩ (by rw [ha, he]; exact Try.underlying63) .i64 (k : Int) (by omega) (by rw [ha]; omega), he, ha, run_sizeOf w hi]
  simp [slicedAt, Addr.add]
set_option maxRecDepth 100000 in
set_option maxHeartbeats 4000000 in
theorem list_zero (x0 x1 x2 x3 x4 x5 x6 x7 x8 x9 x10 x11 x12 x13 x14 x15 : Int) (k : Nat) (hk : k ≤ 16) (w : World) (heq : ∀ w : World, (Op.equalIn 10000 63 (.agg #[.int .i64 x0, .int .i64 x1, .int .i64 x2, .int .i64 x3, .int .i64 x4, .int .i64 x5, .int .i64 x6, .int .i64 x7, .int .i64 x8, .int .i64 x9, .int .i64 x10, .int .i64 x11, .int .i64 x12, .int .i64 x13, .int .i64 x14, .int .i64 x15]) (.agg #[.int .i64 0, .int .i64 0, .int .i64 0, .int .i64 0, .int .i64 0, .int .i64 0, .int .i64 0, .int .i64 0, .int .i64 0, .int .i64 0, .int .i64 0, .int .i64 0, .int .i64 0, .int .i64 0, .int .i64 0, .int .i64 0])).run Try.prog w = .ok true w) (hz : [x0, x1, x2, x3, x4, x5, x6, x7, x8, x9, x10, x11, x12, x13, x14, x15].take k = List.replicate k 0) :
    Calls Try.prog 36 #[.agg #[.int .i64 x0, .int .i64 x1, .int .i64 x2, .int .i64 x3, .int .i64 x4, .int .i64 x5, .int .i64 x6, .int .i64 x7, .int .i64 x8, .int .i64 x9, .int .i64 x10, .int .i64 x11, .int .i64 x12, .int .i64 x13, .int .i64 x14, .int .i64 x15], .int .i64 (k : Int)] w fun e w' => ∃ v, e = .returned v ∧ Kd.R (Kd.int .i64) 3 w' w.heap.size (fun _ => True) v ([x0, x1, x2, x3, x4, x5, x6, x7, x8, x9, x10, x11, x12, x13, x14, x15].take k) ∧ Below w.heap.size w w' := by
  have HZ := Lib.hid hz
  clear hz
  go_enter Try.func36, Try.ntmps36
  go_wp2_with (first | (refine Kd.R_make (Kd.int .i64) _ 3 rfl (N := 9) rfl 37 _ _ rfl (k : Int) rfl rfl Try.underlying37 (.int .i64 0) 8 info3 rfl (by decide) (by omega) 0 (ok := fun _ => True) (okp := fun _ => True) rfl (fun _ hk => hk) trivial (by omega) (by rw [Int.toNat_natCast]; omega) (Below.refl _ _) (Nat.le_refl _) ?_; intro v1 w1 ho1 hb1 hg1 hn1) | fail)
  go_ret
  refine ⟨_, rfl, ?_, Below.trans ((Below.refl _ _).alloc (Nat.le_refl _) _) (hb1.mono (by simp))⟩
  rw [HZ.out]
  rw [Int.toNat_natCast] at ho1
  exact Kd.R_lower ho1 (by simp)
set_option maxRecDepth 100000 in
set_option maxHeartbeats 4000000 in
theorem list_some (x0 x1 x2 x3 x4 x5 x6 x7 x8 x9 x10 x11 x12 x13 x14 x15 : Int) (k : Nat) (hk : k ≤ 16) (w : World) (heq : ∀ w : World, (Op.equalIn 10000 63 (.agg #[.int .i64 x0, .int .i64 x1, .int .i64 x2, .int .i64 x3, .int .i64 x4, .int .i64 x5, .int .i64 x6, .int .i64 x7, .int .i64 x8, .int .i64 x9, .int .i64 x10, .int .i64 x11, .int .i64 x12, .int .i64 x13, .int .i64 x14, .int .i64 x15]) (.agg #[.int .i64 0, .int .i64 0, .int .i64 0, .int .i64 0, .int .i64 0, .int .i64 0, .int .i64 0, .int .i64 0, .int .i64 0, .int .i64 0, .int .i64 0, .int .i64 0, .int .i64 0, .int .i64 0, .int .i64 0, .int .i64 0])).run Try.prog w = .ok false w) :
    Calls Try.prog 36 #[.agg #[.int .i64 x0, .int .i64 x1, .int .i64 x2, .int .i64 x3, .int .i64 x4, .int .i64 x5, .int .i64 x6, .int .i64 x7, .int .i64 x8, .int .i64 x9, .int .i64 x10, .int .i64 x11, .int .i64 x12, .int .i64 x13, .int .i64 x14, .int .i64 x15], .int .i64 (k : Int)] w fun e w' => ∃ v, e = .returned v ∧ Kd.R (Kd.int .i64) 3 w' w.heap.size (fun _ => True) v ([x0, x1, x2, x3, x4, x5, x6, x7, x8, x9, x10, x11, x12, x13, x14, x15].take k) ∧ Below w.heap.size w w' := by
  have hsl := fun (g : Nat) (w : World) => slice16 k hk g w
  have hB0 := Blk.new w 63 (ints [x0, x1, x2, x3, x4, x5, x6, x7, x8, x9, x10, x11, x12, x13, x14, x15])
  have HB0 := Lib.hid hB0
  clear hB0
  go_enter Try.func36, Try.ntmps36
  go_wp2_with (first | (refine Kd.R_lit (Kd.int .i64) (w0 := w) w.heap.size 3 rfl (N := 10) rfl (xs := ([] : List Int)) (inner := []) (ok := fun _ => True) (okp := fun _ => True) ?hr ?hp (fun _ hk => hk) trivial ((Below.refl _ _).alloc (Nat.le_refl _) _) (by simp) (by simp) ?_; (case hr => first | (go_simp; done) | (go_simp; rfl)); (case hp => exact (Reps.none _ _)); intro v1 w1 ho1 hb1 hg1 hn1; obtain ⟨a1, k1, rfl⟩ := Kd.R_slice ho1; have HO1 := Lib.hid ho1; have HX1 := Lib.hid hb1; have HG1 := Lib.hid hg1; clear ho1 hb1 hg1 hn1) | (refine Kd.R_append_rows (Kd.int .i64) (w0 := w) w.heap.size rfl (.tmp 10) (.tmp 12) 37 3 (.int .i64 0) 8 rfl Try.underlying37 info3 rfl (by decide) (by omega) (.slice a1 0 k1) [] ([x0, x1, x2, x3, x4, x5, x6, x7, x8, x9, x10, x11, x12, x13, x14, x15].take k) _ _ _ (fun _ => True) (fun _ => False) rfl rfl ?aO ?aR (fun _ _ h => h) (fun _ h => h.elim) ?aF ?aB ?aS ?aL ?_; (case aR => exact Kd.C_of_reads (bal_reads (HB0.out.grown HG1.out (by simp)) rfl hk)); (case aB => exact HX1.out); (case aF => exact fun _ _ => trivial); (case aO => exact HO1.out); (case aS => exact HX1.out.size); (case aL => simp; omega); intro v2 w2 ho2 hb2 hg2 hn2) | fail)
  go_ret
  exact ⟨_, rfl, ho2, hb2⟩
end Go.Proofs.Ytooogaogbffjfaa.Ext
end
section
/-
  Statement and Owed: the lists of what was booked.
-/
set_option linter.unusedVariables false
set_option linter.unusedSimpArgs false
namespace Go.Proofs.Ytooogaogbffjfaa.Ext
open Go.RowKit Go.Shelf Go.Proofs.YtooogaogbffjfaaW.PrintWords Go.Proofs.YtooogaogbffjfaaW.PrintLast Go.Proofs.YtooogaogbffjfaaW.PrintMore Go.Proofs.Ytooogaogbffjfaa.PK Go.Proofs.Ytooogaogbffjfaa.Bk
attribute [local go_sem] Oper.semAt_some
theorem list_walk (bs : List Int) (hl : bs.length = 16) (k : Nat) (hk : k ≤ 16) (w : World) :
    Calls Try.prog 36 #[.agg (ints bs).toArray, .int .i64 (k : Int)] w fun e w' => ∃ v, e = .returned v ∧ Kd.R (Kd.int .i64) 3 w' w.heap.size (fun _ => True) v (bs.take k) ∧ Below w.heap.size w w' := by
  match bs, hl with
  | [x0, x1, x2, x3, x4, x5, x6, x7, x8, x9, x10, x11, x12, x13, x14, x15], hl =>
    cases hr : (List.range 16).all (fun i => [x0, x1, x2, x3, x4, x5, x6, x7, x8, x9, x10, x11, x12, x13, x14, x15].getD i 0 == 0) with
    | true =>
      have hz : [x0, x1, x2, x3, x4, x5, x6, x7, x8, x9, x10, x11, x12, x13, x14, x15] = List.replicate 16 0 := by
        simp [List.range, List.range.loop] at hr
        simp [hr, List.replicate]
      refine list_zero x0 x1 x2 x3 x4 x5 x6 x7 x8 x9 x10 x11 x12 x13 x14 x15 k hk w (fun w => eq_zero16 _ hl true hr w) ?_
      rw [hz, List.take_replicate, Nat.min_eq_left hk]
    | false => exact list_some x0 x1 x2 x3 x4 x5 x6 x7 x8 x9 x10 x11 x12 x13 x14 x15 k hk w (fun w => eq_zero16 _ hl false hr w)
/-- what all of some postings come to -/
def sumB (l : List S27) : List Int := l.foldl addB (List.replicate 16 0)
theorem sumB_snoc (l : List S27) (p : S27) : sumB (l ++ [p]) = addB (sumB l) p := by simp [sumB]
theorem sumB_len (l : List S27) : (sumB l).length = 16 := by
  rcases List.eq_nil_or_concat l with rfl | ⟨l, p, rfl⟩
  · rfl
  · rw [List.concat_eq_append, sumB_snoc, addB_len]
    have : ∀ (l : List S27) (bs : List Int), bs.length = 16 → (l.foldl addB bs).length = 16 := by
      intro l
      induction l with
      | nil => intro bs h; exact h
      | cons q r ih => intro bs h; exact ih _ (by rw [addB_len]; exact h)
    exact this l _ rfl
/-- a posting that may be booked -/
def Book1 (p : S27) : Prop := (0 ≤ p.f2 ∧ p.f2 ≤ 15) ∧ (0 ≤ p.f3 ∧ p.f3 ≤ 15) ∧ p.f2 ≠ p.f3 ∧ (1 ≤ p.f4 ∧ p.f4 ≤ 1000000000000) ∧ (0 ≤ p.f1 ∧ p.f1 ≤ 359)
theorem book1_of {acc : Int} {p : S27} (ha : 2 ≤ acc ∧ acc ≤ 16) (h : formedB acc p = true) : Book1 p := by
  unfold formedB at h
  have h := of_decide_eq_true h
  have e : wrap64 (acc - 1) = acc - 1 := by unfold wrap64; omega
  rw [e] at h
  exact ⟨by omega, by omega, h.2.2.2.1, h.2.2.2.2.1, h.1⟩
theorem next_formed {n : Int} {l : List S27} {p : S27} (h : nextB n l p = true) : formedB n p = true := by
  unfold nextB at h
  rw [Bool.and_eq_true, Bool.and_eq_true] at h
  exact h.2.1
theorem okAll_formed {n : Int} (ps : List S27) : ∀ pre : List S27, okAll n pre ps = true → ∀ p ∈ ps, formedB n p = true := by
  induction ps with
  | nil => intro pre h p hp; cases hp
  | cons q r ih =>
    intro pre h p hp
    rw [okAll, Bool.and_eq_true] at h
    rcases List.mem_cons.1 hp with rfl | hp
    · exact next_formed h.1
    · exact ih _ h.2 p hp
theorem acc_of {acc clo : Int} (h : inB acc clo = true) : 2 ≤ acc ∧ acc ≤ 16 := by
  unfold inB at h
  exact (of_decide_eq_true h).1
theorem sumB_bound (l : List S27) (h : ∀ p ∈ l, Book1 p) : ∀ x ∈ sumB l, -((l.length : Int) * 1000000000000) ≤ x ∧ x ≤ (l.length : Int) * 1000000000000 := by
  generalize hm : l.length = m
  induction m generalizing l with
  | zero =>
    intro x hx
    have : l = [] := List.eq_nil_of_length_eq_zero hm
    subst this
    have := List.eq_of_mem_replicate hx
    omega
  | succ m ih =>
    rcases List.eq_nil_or_concat l with rfl | ⟨l, p, rfl⟩
    · simp at hm
    · rw [List.concat_eq_append] at *
      have hm2 : l.length = m := by simpa using hm
      have hp := h p (by simp)
      have ih2 := ih l (fun q hq => h q (by simp [hq])) hm2
      have hz : ∀ j, -((m : Int) * 1000000000000) ≤ (sumB l).getD j 0 ∧ (sumB l).getD j 0 ≤ (m : Int) * 1000000000000 := by
        intro j
        by_cases hj : j < (sumB l).length
        · have := ih2 _ (List.getElem_mem hj)
          simpa [List.getD_eq_getElem?_getD, hj] using this
        · have : (sumB l).getD j 0 = 0 := by simp [List.getD_eq_getElem?_getD, hj]
          rw [this]; omega
      intro x hx
      rw [sumB_snoc, addB] at hx
      unfold Book1 at hp
      have h2 := hz p.f2.toNat
      have h3 := hz p.f3.toNat
      rcases List.mem_or_eq_of_mem_set hx with hx | rfl
      · rcases List.mem_or_eq_of_mem_set hx with hx | rfl
        · have := ih2 x hx; omega
        · omega
      · omega
theorem thoseL_mem (f : Nat → S27 → Bool) (l : List S27) : ∀ i, ∀ p ∈ thoseL f i l, p ∈ l := by
  induction l with
  | nil => intro i p h; cases h
  | cons q r ih =>
    intro i p h
    rw [thoseL] at h
    split at h
    · rcases List.mem_cons.1 h with rfl | h
      · simp
      · exact List.mem_cons_of_mem _ (ih _ p h)
    · exact List.mem_cons_of_mem _ (ih _ p h)
theorem thoseL_len (f : Nat → S27 → Bool) (l : List S27) : ∀ i, (thoseL f i l).length ≤ l.length := by
  induction l with
  | nil => intro i; simp [thoseL]
  | cons q r ih =>
    intro i
    have := ih (i + 1)
    rw [thoseL]
    split <;> simp <;> omega
/-- a posting is added to the balances -/
theorem add_step (g : Nat) (l : List S27) (p : S27) (h : ∀ q ∈ l ++ [p], Book1 q) (hl : l.length ≤ 200) (w : World) (hB : Blk w g 63 (ints (sumB l))) :
    Calls Try.prog 35 #[.pointer (some ⟨g, 0, none⟩), pv p] w fun e w' => e = .returned (.tuple #[]) ∧ w.grownBy w' (some g) ∧ Blk w' g 63 (ints (sumB (l ++ [p]))) := by
  have hp := h p (by simp)
  have hb := sumB_bound l (fun q hq => h q (by simp [hq]))
  unfold Book1 at hp
  obtain ⟨⟨h20, h21⟩, ⟨h30, h31⟩, hne, ⟨h40, h41⟩, _⟩ := hp
  obtain ⟨d, hd⟩ := Int.eq_ofNat_of_zero_le h20
  obtain ⟨c, hc⟩ := Int.eq_ofNat_of_zero_le h30
  have hlen := sumB_len l
  have hcx := List.getElem?_eq_getElem (show c < (sumB l).length by omega)
  have hdx := List.getElem?_eq_getElem (show d < (sumB l).length by omega)
  have bx := hb _ (List.getElem_mem (show c < (sumB l).length by omega))
  have bd := hb _ (List.getElem_mem (show d < (sumB l).length by omega))
  refine (add_walk g (sumB l) hlen p c d hc hd (by omega) (by omega) (by omega) _ _ hcx hdx _ _ (IntWalk.i64_in _ (by omega)) (IntWalk.i64_in _ (by omega)) w hB).mono ?_
  rintro e w' ⟨h1, h2, h3⟩
  refine ⟨h1, h2, ?_⟩
  rw [sumB_snoc, addB, hd, hc, Int.toNat_natCast, Int.toNat_natCast, List.getD_eq_getElem?_getD, List.getD_eq_getElem?_getD, hcx, hdx]
  exact h3
def stF (month : Int) (_ : Nat) (p : S27) : Bool := p.f1 / 30 == month
/-- the balances in a month -/
def stL (month : Int) (ps : List S27) : List Int := sumB (thoseL (stF month) 0 ps)
/-- the balances for a subject -/
def owL (subject : Int) (ps : List S27) : List Int := sumB (thoseL (owedF subject (backs ps)) 0 ps)
theorem zero_bal (W : World) : Sem.run Try.prog (zeroValue 63) W = .ok (.agg (ints (List.replicate 16 0)).toArray) W := by
  kernel_rfl
end Go.Proofs.Ytooogaogbffjfaa.Ext
end
