import Derived.Test.YtlmlimihgohchaaDoorYRangeK
import Derived.Test.YtlmlimihgohchaaDoorYBlk
import Derived.RangeFuncBox
import Derived.RangeFuncLeaves
import Derived.Shelf.Abstract
import Derived.WalkKit
import Derived.OwnWalkIn
import Derived.TacticsInMore
import Derived.LoopNIn
import Derived.LoopIn
import Derived.Sort.QuietIn
import Derived.Lib.Hide
/-
  Texts of this claim, one behind the other: what they prove stands above each.
-/
section
/-
  slices.Backward and its iterator, for strings.
-/
namespace Go.Proofs.YtlmlimihgohchaaDoor.Ext
open Go.RowKit Go.Shelf
attribute [local go_sem] Oper.semAt_some
theorem back_walk (A : Option Addr) (n c : Nat) (w : World) :
    Calls Tryd.prog 44 #[.slice A n c] w fun e w' => e = .returned (.func (.func 60) #[] #[.pointer (some ⟨w.heap.size, 0, none⟩)]) ∧ w' = w.alloc (.cells #[.slice A n c] 22) := by
  go_enter Tryd.func44, Tryd.ntmps44
  go_wp2
  go_ret
  exact ⟨rfl, rfl⟩
/-- the elements from the last one on -/
def backs {α : Type} (d : α) (ys : List α) : List (Nat × α) := (List.range ys.length).reverse.map fun i => (i, ys.getD i d)
abbrev pair (p : Nat × ByteArray) : Array Value := #[.int .i64 (p.1 : Int), .string p.2]
theorem backs_len {α : Type} (d : α) (ys : List α) : (backs d ys).length = ys.length := by simp [backs]
theorem backs_step {α : Type} (d : α) (ys : List α) (j : Nat) (hj : j < ys.length) : (backs d ys).take (j + 1) = (backs d ys).take j ++ [(ys.length - 1 - j, ys.getD (ys.length - 1 - j) d)] := by
  rw [List.take_succ_eq_append_getElem (by rw [backs_len]; exact hj)]
  simp [backs]
set_option maxRecDepth 100000 in
set_option maxHeartbeats 1000000 in
theorem back1_gives (B g m c : Nat) (t : TypeId) (ys : List ByteArray) (hm : ys.length = m) (hm2 : m < 1000000000) (C : List Value) (hC : ∀ (j : Nat) (x : ByteArray), ys[j]? = some x → C[j]? = some (Value.string x)) (w : World) (hB : Blk w B 22 [.slice (some ⟨g, 0, none⟩) m c]) (hg : Blk w g t C) :
    GivesAllK Fence.wide 4 Tryd.prog 60 #[.pointer (some ⟨B, 0, none⟩)] pair (backs ⟨#[]⟩ ys) (fun k => k = B ∨ k = g) w := fun l J W hW hJ hY h0 => by
  have hBW := hB.belowS hW
  have hgW := hg.belowS hW
  have HM := Lib.hid hm
  have HC := Lib.hid hC
  clear hm hC hB hg
  refine callsIn_of_wp Tryd.func60 rfl trivial ?_ rfl
  simp only [Tryd.ntmps60, List.size_toArray, List.length_cons, List.length_nil, Nat.reduceAdd, Nat.reduceSub, Array.replicate_succ, Array.replicate_zero, List.push_toArray, List.append_toArray, List.nil_append, List.cons_append]
  have c00 : W.cell? ⟨B, 0, none⟩ = some (.slice (some ⟨g, 0, none⟩) m c) := hBW.cell rfl
  gi_wp2
  clear c00
  gi_loopw [3] (fun i wr => ∃ j : Nat, j ≤ m ∧ i = .int .i64 ((m : Int) - 1 - (j : Int)) ∧ J ((backs ⟨#[]⟩ ys).take j) wr ∧ Blk wr B 22 [.slice (some ⟨g, 0, none⟩) m c] ∧ Blk wr g t C) (fun i wr => (intOf i + 1).toNat)
  case atStart => exact ⟨0, by omega, by simp, h0, hBW, hgW⟩
  case round =>
    clear hBW hgW
    obtain ⟨j, hj, rfl, hJj, hb0, hb1⟩ := hrel
    have c0 : wr.cell? ⟨B, 0, none⟩ = some (.slice (some ⟨g, 0, none⟩) m c) := hb0.cell rfl
    by_cases hlt : j < m
    · obtain ⟨p, hp⟩ : ∃ p, p = m - 1 - j := ⟨_, rfl⟩
      have ep : (m : Int) - 1 - (j : Int) = (p : Int) := by omega
      obtain ⟨x, hx⟩ : ∃ x, ys[p]? = some x := ⟨ys[p]'(by rw [HM.out]; omega), List.getElem?_eq_getElem _⟩
      have cx : wr.cell? ⟨g, p, none⟩ = some (.string x) := hb1.cell (HC.out p x hx)
      rw [ep]
      have p0 : (0 : Int) ≤ (p : Int) := by omega
      have d1 : decide ((0 : Int) ≤ (p : Int)) = true := decide_eq_true p0
      have p1 : (p : Int) < (m : Int) := by omega
      obtain ⟨fn', tmps, assign, body, hy, hR⟩ := hY ((backs ⟨#[]⟩ ys).take j) (p, x) wr hJj (by
        have h1 := backs_step (⟨#[]⟩ : ByteArray) ys j (by rw [HM.out]; exact hlt)
        rw [HM.out, ← hp, show ys.getD p ⟨#[]⟩ = x by simp [List.getD_eq_getElem?_getD, hx]] at h1
        rw [← h1]
        exact List.take_prefix _ _)
      dsimp only [pair] at hy
      have HP := Lib.hid (And.intro hp (And.intro ep hx))
      clear hp ep hx
      gi_wp2
      refine hR.mono ?_
      rintro e W3 ⟨rfl, hJ3, hk3⟩
      have hb0' : Blk W3 B 22 [.slice (some ⟨g, 0, none⟩) m c] := hb0.move (hk3 B (Or.inl rfl))
      have hb1' : Blk W3 g t C := hb1.move (hk3 g (Or.inr rfl))
      gi_wp2
      go_roundw
      case rel =>
        refine ⟨j + 1, by omega, by have := HP.out.2.1; rw [← this]; first | (congr 1; omega) | (congr 1), ?_, hb0', hb1'⟩
        have h1 := backs_step (⟨#[]⟩ : ByteArray) ys j (by rw [HM.out]; exact hlt)
        rw [HM.out, ← HP.out.1, show ys.getD p ⟨#[]⟩ = x by simp [List.getD_eq_getElem?_getD, HP.out.2.2]] at h1
        rw [h1]
        exact hJ3
      case measure => simp [intOf]
    · obtain rfl : j = m := by omega
      have d1 : decide ((0 : Int) ≤ (j : Int) - 1 - (j : Int)) = false := decide_eq_false (by omega)
      have e1 : (j : Int) - 1 - (j : Int) = -1 := by omega
      rw [e1]
      gi_wp2
      go_end0
      refine ⟨⟨_, rfl⟩, ?_⟩
      rw [List.take_of_length_le (by rw [backs_len, HM.out]; exact Nat.le_refl _)] at hJj
      exact hJj
end Go.Proofs.YtlmlimihgohchaaDoor.Ext
end
