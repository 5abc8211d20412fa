import Derived.Test.YtlmlimihgohchaaDoorYRoot
import Derived.Test.YtlmlimihgohchaaDoorYBack
/-
  Texts of this claim, one behind the other: what they prove stands above each.
-/
section
/-
  A step from a part of a tree to the whole; slices.Backward over such steps; take.
-/
namespace Go.Proofs.YtlmlimihgohchaaDoor.Ext
open Go.RowKit Go.Shelf Go.Proofs.YtlmlimihgohchaaDoorW.PrintWords Go.Proofs.YtlmlimihgohchaaDoorW.PrintLast Go.Proofs.YtlmlimihgohchaaDoorW.PrintMore
set_option linter.unusedVariables false
set_option linter.unusedSimpArgs false
attribute [local go_sem] Oper.semAt_some
/-- the whole's digest -/
def joinS (x : ByteArray × Bool) (part : ByteArray) : ByteArray := if x.2 then dN x.1 part else dN part x.1
set_option maxHeartbeats 1000000 in
theorem join_walk (r : ByteArray) (f : Bool) (part : ByteArray) (hsz : r.size + part.size ≤ 140737488349000) (w : World) (hG : GL w) :
    Calls Tryd.prog 48 #[.agg #[.string r, .bool f], .string part] w fun e w' => e = .returned (.string (joinS (r, f) part)) ∧ Below w.heap.size w w' := by
  have HG := Lib.hid hG
  clear hG
  cases f with
  | true =>
    go_enter Tryd.func48, Tryd.ntmps48
    go_wp2_with (first | (go_at_call 32; refine (Node_walk r part hsz _ (HG.out.below ((Below.refl _ _).alloc (Nat.le_refl _) _))).mono ?_; rintro e w2 ⟨rfl, hb2⟩) | fail)
    go_ret
    exact ⟨rfl, Below.trans ((Below.refl _ _).alloc (Nat.le_refl _) _) (hb2.mono (by simp))⟩
  | false =>
    have hsz' : part.size + r.size ≤ 140737488349000 := by omega
    go_enter Tryd.func48, Tryd.ntmps48
    go_wp2_with (first | (go_at_call 32; refine (Node_walk part r hsz' _ (HG.out.below ((Below.refl _ _).alloc (Nat.le_refl _) _))).mono ?_; rintro e w2 ⟨rfl, hb2⟩) | fail)
    go_ret
    exact ⟨rfl, Below.trans ((Below.refl _ _).alloc (Nat.le_refl _) _) (hb2.mono (by simp))⟩
abbrev pairS (p : Nat × (ByteArray × Bool)) : Array Value := #[.int .i64 (p.1 : Int), .agg #[.string p.2.1, .bool p.2.2]]
theorem backS_walk (A : Option Addr) (n c : Nat) (w : World) :
    Calls Tryd.prog 47 #[.slice A n c] w fun e w' => e = .returned (.func (.func 63) #[] #[.pointer (some ⟨w.heap.size, 0, none⟩)]) ∧ w' = w.alloc (.cells #[.slice A n c] 54) := by
  go_enter Tryd.func47, Tryd.ntmps47
  go_wp2
  go_ret
  exact ⟨rfl, rfl⟩
set_option maxRecDepth 100000 in
set_option maxHeartbeats 1000000 in
theorem backS1_gives (B g m c : Nat) (t : TypeId) (ys : List (ByteArray × Bool)) (hm : ys.length = m) (hm2 : m < 1000000000) (C : List Value) (hC : ∀ (j : Nat) (x : ByteArray × Bool), ys[j]? = some x → C[j * 2]? = some (Value.string x.1) ∧ C[j * 2 + 1]? = some (Value.bool x.2)) (w : World) (hB : Blk w B 54 [.slice (some ⟨g, 0, none⟩) m c]) (hg : Blk w g t C) :
    GivesAllK Fence.wide 4 Tryd.prog 63 #[.pointer (some ⟨B, 0, none⟩)] pairS (backs (⟨#[]⟩, false) ys) (fun k => k = B ∨ k = g) w := fun l J W hW hJ hY h0 => by
  have hBW := hB.belowS hW
  have hgW := hg.belowS hW
  have HM := Lib.hid hm
  have HC := Lib.hid hC
  clear hm hC hB hg
  refine callsIn_of_wp Tryd.func63 rfl trivial ?_ rfl
  simp only [Tryd.ntmps63, List.size_toArray, List.length_cons, List.length_nil, Nat.reduceAdd, Nat.reduceSub, Array.replicate_succ, Array.replicate_zero, List.push_toArray, List.append_toArray, List.nil_append, List.cons_append]
  have c00 : W.cell? ⟨B, 0, none⟩ = some (.slice (some ⟨g, 0, none⟩) m c) := hBW.cell rfl
  gi_wp2
  clear c00
  gi_loopw [3] (fun i wr => ∃ j : Nat, j ≤ m ∧ i = .int .i64 ((m : Int) - 1 - (j : Int)) ∧ J ((backs (⟨#[]⟩, false) ys).take j) wr ∧ Blk wr B 54 [.slice (some ⟨g, 0, none⟩) m c] ∧ Blk wr g t C) (fun i wr => (intOf i + 1).toNat)
  case atStart => exact ⟨0, by omega, by simp, h0, hBW, hgW⟩
  case round =>
    clear hBW hgW
    obtain ⟨j, hj, rfl, hJj, hb0, hb1⟩ := hrel
    have c0 : wr.cell? ⟨B, 0, none⟩ = some (.slice (some ⟨g, 0, none⟩) m c) := hb0.cell rfl
    by_cases hlt : j < m
    · obtain ⟨p, hp⟩ : ∃ p, p = m - 1 - j := ⟨_, rfl⟩
      have ep : (m : Int) - 1 - (j : Int) = (p : Int) := by omega
      obtain ⟨x, hx⟩ : ∃ x, ys[p]? = some x := ⟨ys[p]'(by rw [HM.out]; omega), List.getElem?_eq_getElem _⟩
      have cx : wr.cell? ⟨g, p * 2, none⟩ = some (.string x.1) := hb1.cell (HC.out p x hx).1
      have cx2 : wr.cell? ⟨g, p * 2 + 1, none⟩ = some (.bool x.2) := hb1.cell (HC.out p x hx).2
      rw [ep]
      have p0 : (0 : Int) ≤ (p : Int) := by omega
      have d1 : decide ((0 : Int) ≤ (p : Int)) = true := decide_eq_true p0
      have p1 : (p : Int) < (m : Int) := by omega
      obtain ⟨fn', tmps, assign, body, hy, hR⟩ := hY ((backs (⟨#[]⟩, false) ys).take j) (p, x) wr hJj (by
        have h1 := backs_step ((⟨#[]⟩, false) : ByteArray × Bool) ys j (by rw [HM.out]; exact hlt)
        rw [HM.out, ← hp, show ys.getD p (⟨#[]⟩, false) = x by simp [List.getD_eq_getElem?_getD, hx]] at h1
        rw [← h1]
        exact List.take_prefix _ _)
      dsimp only [pairS] at hy
      have HP := Lib.hid (And.intro hp (And.intro ep hx))
      clear hp ep hx
      gi_wp2
      refine hR.mono ?_
      rintro e W3 ⟨rfl, hJ3, hk3⟩
      have hb0' : Blk W3 B 54 [.slice (some ⟨g, 0, none⟩) m c] := hb0.move (hk3 B (Or.inl rfl))
      have hb1' : Blk W3 g t C := hb1.move (hk3 g (Or.inr rfl))
      gi_wp2
      go_roundw
      case rel =>
        refine ⟨j + 1, by omega, by have := HP.out.2.1; rw [← this]; first | (congr 1; omega) | (congr 1), ?_, hb0', hb1'⟩
        have h1 := backs_step ((⟨#[]⟩, false) : ByteArray × Bool) ys j (by rw [HM.out]; exact hlt)
        rw [HM.out, ← HP.out.1, show ys.getD p (⟨#[]⟩, false) = x by simp [List.getD_eq_getElem?_getD, HP.out.2.2]] at h1
        rw [h1]
        exact hJ3
      case measure => simp [intOf]
    · obtain rfl : j = m := by omega
      have d1 : decide ((0 : Int) ≤ (j : Int) - 1 - (j : Int)) = false := decide_eq_false (by omega)
      have e1 : (j : Int) - 1 - (j : Int) = -1 := by omega
      rw [e1]
      gi_wp2
      go_end0
      refine ⟨⟨_, rfl⟩, ?_⟩
      rw [List.take_of_length_le (by rw [backs_len, HM.out]; exact Nat.le_refl _)] at hJj
      exact hJj
set_option maxHeartbeats 1000000 in
theorem take_walk (A : Option Addr) (n c : Nat) (w : World) (x : ByteArray) (h : 0 < n → ∃ ad, A = some ad ∧ w.cell? (ad.add (n - 1)) = some (.string x)) (hc : n ≤ c) (hn : n ≤ 1000000) :
    Calls Tryd.prog 46 #[.slice A n c] w fun e w' => (e = if n = 0 then .returned (.tuple #[.string ⟨#[]⟩, .slice none 0 0, .bool false]) else .returned (.tuple #[.string x, .slice A (n - 1) c, .bool true])) ∧ ∃ m, w' = w.drewN m := by
  by_cases h0 : n = 0
  · subst h0
    go_enter Tryd.func46, Tryd.ntmps46
    go_wp2
    go_ret3
    exact ⟨rfl, 0, rfl⟩
  · obtain ⟨ad, hA, hx⟩ := h (by omega)
    subst hA
    obtain ⟨m, hm⟩ : ∃ m, m = n - 1 := ⟨_, rfl⟩
    rw [← hm] at hx ⊢
    have g1 : (n : Int) - 1 = (m : Int) := by omega
    have b1 : (m : Int) < (n : Int) := by omega
    have b2 : (0 : Int) ≤ (m : Int) := by omega
    have b3 : (m : Int) ≤ (c : Int) := by omega
    have H0 := Lib.hid h0
    have d0 : ((n : Int) == 0) = false := by simp; omega
    rw [if_neg h0]
    clear hm h0 h
    go_enter Tryd.func46, Tryd.ntmps46
    go_wp2
    go_quiet (fail)
    go_wp2
    go_ret3
    exact ⟨rfl, _, rfl⟩
end Go.Proofs.YtlmlimihgohchaaDoor.Ext
end
