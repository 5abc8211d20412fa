import Derived.Test.YtooogaogbffjfaaDoorMBookHeadsMatchReferenceak
import Derived.LoopNIn
import Derived.LoopIn
import Derived.Test.YtooogaogbffjfaaDoorMBookHeadsMatchReferenceae
import Derived.StillTailTactics
import Derived.ChangeKeysEq
import Derived.Outline
import Derived.Test.YtooogaogbffjfaaDoorProg
import Derived.Below
import Derived.Deep.Draws
import Derived.Deep.AppendLies
import Derived.Maps.AppendAt
import Derived.OwnWalk
import Derived.Laws.BytesArg
import Derived.Laws.MakeOwn
import Derived.Laws.OwnMore
import Derived.Deep.OwnRows
import Derived.Tactics
import Derived.Lib.ConvBytes
import Derived.Laws.Slices
import Derived.WalkKit
import Derived.KernelRfl
import Derived.RowKit3
import Derived.Deep.LoopGhost
import Derived.Deep.QuietTactic
import Derived.BigQuiet
import Derived.WideLaws
import Derived.Deep.DeepCutAuto
import Derived.Deep.CutBlock
import Derived.Deep.RegionHeld3
import Derived.Laws.Rows
import Derived.Lib.AppendStr
import Derived.ArgAppend
import Derived.Laws.IdiomCopy
import Derived.OrdersHeld
import Derived.Laws.BitsLemmas
import Derived.RowKit
import Derived.Test.YtooogaogbffjfaaDoorMBookHeadsMatchReferenceaa
import Derived.Test.YtooogaogbffjfaaDoorMBookHeadsMatchReferenceab
import Derived.Test.YtooogaogbffjfaaDoorMBookHeadsMatchReferenceac
import Derived.Test.YtooogaogbffjfaaDoorMBookHeadsMatchReferenceah
import Derived.Lib.Hide
/-
  Texts of this claim, one behind the other: what they prove stands above each.
-/
section
set_option linter.unusedVariables false
set_option linter.unusedSimpArgs false
namespace Go.Proofs.YtooogaogbffjfaaDoor.Ext
set_option maxRecDepth 100000
open Go.RowKit Go.Shelf Go.Proofs.YtooogaogbffjfaaDoorW.PrintWords Go.Proofs.YtooogaogbffjfaaDoorW.PrintLast Go.Proofs.YtooogaogbffjfaaDoorW.PrintMore Go.Proofs.YtooogaogbffjfaaDoor.PK Go.Proofs.YtooogaogbffjfaaDoor.Bk
attribute [local go_sem] Oper.semAt_some
def thoseL (f : Nat → S27 → Bool) : Nat → List S27 → List S27
  | _, [] => []
  | i, p :: r => if f i p then p :: thoseL f (i + 1) r else thoseL f (i + 1) r
theorem thoseL_snoc (f : Nat → S27 → Bool) (l : List S27) (p : S27) : ∀ i, thoseL f i (l ++ [p]) = thoseL f i l ++ if f (i + l.length) p then [p] else [] := by
  induction l with
  | nil => intro i; simp [thoseL]
  | cons q r ih =>
    intro i
    have := ih (i + 1)
    rw [List.cons_append, thoseL, thoseL, this]
    have e : i + (q :: r).length = i + 1 + r.length := by simp; omega
    rw [e]
    split <;> simp
theorem thoseL_prefix (f : Nat → S27 → Bool) (l r : List S27) : ∀ i, thoseL f i l <+: thoseL f i (l ++ r) := by
  induction l with
  | nil => intro i; exact List.nil_prefix
  | cons q l ih =>
    intro i
    rw [List.cons_append, thoseL, thoseL]
    split
    · exact List.cons_prefix_cons.2 ⟨rfl, ih (i + 1)⟩
    · exact ih (i + 1)
abbrev pvA (p : S27) : Array Value := #[pv p]
theorem cell_of_kept {w W : World} {a : Addr} {v : Value} (h : W.heap[a.block]? = w.heap[a.block]?) (hc : w.cell? a = some v) : W.cell? a = some v := (World.cell?_of_block (a := a) h).trans hc
theorem kept_at {w W : World} {b o : Nat} {v : Value} (h : W.heap[b]? = w.heap[b]?) (hc : w.cell? ⟨b, o, none⟩ = some v) : W.cell? ⟨b, o, none⟩ = some v := (World.cell?_of_block (a := ⟨b, o, none⟩) h).trans hc
set_option maxRecDepth 100000 in
set_option maxHeartbeats 2000000 in
theorem those1_gives (B L isf : Nat) (lb : Array Value) (A : Option Addr) (n c : Nat) (ps : List S27) (hn : ps.length = n) (hn2 : n ≤ 1000000) (f : Nat → S27 → Bool) (KS : Nat → Prop) (w : World) (hKS : ∀ k, KS k → k < w.heap.size)
    (hL : w.cell? ⟨L, 0, none⟩ = some (.pointer (some ⟨B, 0, none⟩))) (hL1 : w.cell? ⟨L + 1, 0, none⟩ = some (.func (.func isf) #[] lb)) (hB : w.cell? ⟨B, 1, none⟩ = some (.slice A n c)) (hR : Kd.C k27 w A n ps)
    (kL : KS L) (kL1 : KS (L + 1)) (kB : KS B) (kA : ∀ ad, A = some ad → KS ad.block)
    (hen : ∀ args w, (callFunc isf args).run Tryd.prog w = .ok (.enter isf args) w) (his : ∀ (i : Nat) (p : S27) (W : World), ps[i]? = some p → (∀ k, KS k → W.heap[k]? = w.heap[k]?) → Calls Tryd.prog isf (#[.int .i64 (i : Int), pv p] ++ lb) W fun e w' => e = .returned (.bool (f i p)) ∧ Below W.heap.size W w') :
    GivesAllK Fence.wide 4 Tryd.prog 60 #[.pointer (some ⟨L, 0, none⟩), .pointer (some ⟨L + 1, 0, none⟩)] pvA (thoseL f 0 ps) KS w := fun l J W hW hJ hY h0 => by
  have hk0 : ∀ k, KS k → W.heap[k]? = w.heap[k]? := fun k hk => hW.block k (hKS k hk)
  have HM := Lib.hid hn
  have HI := Lib.hid his
  have HR := Lib.hid hR
  have HA := Lib.hid kA
  have HK0 := Lib.hid hk0
  have HC := Lib.hid (And.intro hL (And.intro hL1 hB))
  have HKL := Lib.hid (And.intro kL (And.intro kL1 kB))
  have cL : W.cell? ⟨L, 0, none⟩ = some (.pointer (some ⟨B, 0, none⟩)) := cell_of_kept (hk0 L kL) hL
  have cB : W.cell? ⟨B, 1, none⟩ = some (.slice A n c) := cell_of_kept (hk0 B kB) hB
  clear hn his hR kA hk0 hL hL1 hB kL kL1 kB
  refine callsIn_of_wp Tryd.func60 rfl trivial ?_ rfl
  simp only [Tryd.ntmps60, List.size_toArray, List.length_cons, List.length_nil, Nat.reduceAdd, Nat.reduceSub, Array.replicate_succ, Array.replicate_zero, List.push_toArray, List.append_toArray, List.nil_append, List.cons_append]
  gi_wp2
  clear cL cB
  gi_loopw [12] (fun i wr => ∃ k : Nat, k ≤ n ∧ i = .int .i64 (k : Int) ∧ J (thoseL f 0 (ps.take k)) wr ∧ ∀ k', KS k' → wr.heap[k']? = w.heap[k']?) (fun i wr => n - (intOf i).toNat)
  case atStart => exact ⟨0, by omega, rfl, by simpa [thoseL] using h0, HK0.out⟩
  case round =>
    obtain ⟨k, hk, rfl, hJk, hkr⟩ := hrel
    have HKR := Lib.hid hkr
    clear hkr
    by_cases hlt : k < n
    · have hki : (k : Int) < (n : Int) := by omega
      have hkl : k < ps.length := by rw [HM.out]; exact hlt
      obtain ⟨ad, rfl, y0, y1, y2, y3, y4, y5, y6⟩ := at_T27 HR.out (k : Int) (by omega) hki
      have hp : rd_T27 ps (k : Int) = ps[k] := by unfold rd_T27; rw [Int.toNat_natCast, List.getD_eq_getElem?_getD, List.getElem?_eq_getElem hkl]; rfl
      have hps : ps[k]? = some ps[k] := List.getElem?_eq_getElem hkl
      generalize ps[k] = p at *
      rw [hp] at y0 y1 y2 y3 y4 y5 y6
      rw [Int.toNat_natCast] at y0 y1 y2 y3 y4 y5 y6
      have hab : (ad.add (k * 7)).block = ad.block := by simp only [Addr.add]; split <;> rfl
      have hbl : wr.heap[(ad.add (k * 7)).block]? = w.heap[(ad.add (k * 7)).block]? := by rw [hab]; exact HKR.out ad.block (HA.out ad rfl)
      have x0 := cell_of_kept hbl y0
      have x1 := kept_at hbl y1
      have x2 := kept_at hbl y2
      have x3 := kept_at hbl y3
      have x4 := kept_at hbl y4
      have x5 := kept_at hbl y5
      have x6 := kept_at hbl y6
      have cL1 : (wr.alloc (.cells #[.int .i64 p.f0, .int .i64 p.f1, .int .i64 p.f2, .int .i64 p.f3, .int .i64 p.f4, .int .i64 p.f5, .int .i64 p.f6] 27)).cell? ⟨L + 1, 0, none⟩ = some (.func (.func isf) #[] lb) := c_old (cell_of_kept (HKR.out _ HKL.out.2.1) HC.out.2.1)
      have HPS := Lib.hid hps
      clear y0 y1 y2 y3 y4 y5 y6 hp hps hab hbl hkl
      have hd : ps.take (k + 1) = ps.take k ++ [p] := by rw [List.take_add_one, HPS.out]; rfl
      have hsn := thoseL_snoc f (ps.take k) p 0
      have hlk : 0 + (ps.take k).length = k := by rw [List.length_take, HM.out]; omega
      rw [hlk, ← hd] at hsn
      have HSN := Lib.hid hsn
      have HD := Lib.hid hd
      clear hsn hd hlk
      gi_wp2
      refine ⟨trivial, CallsIn.mono ((callsIn_wide (n := 3)).2 (HI.out k p _ HPS.out (fun k' hk' => (Below.heap_alloc _ _ _ (by have := HKR.out k' hk'; have h2 := hKS k' hk'; by_cases h3 : k' < wr.heap.size; exact h3; rw [Array.getElem?_eq_none (by omega), Array.getElem?_eq_getElem h2] at this; cases this)).trans (HKR.out k' hk')))) ?_⟩
      rintro e W2 ⟨rfl, hb2⟩
      have hwr : ∀ k', KS k' → k' < wr.heap.size := fun k' hk' => by
        have := HKR.out k' hk'; have h2 := hKS k' hk'; by_cases h3 : k' < wr.heap.size
        · exact h3
        · rw [Array.getElem?_eq_none (by omega), Array.getElem?_eq_getElem h2] at this; cases this
      have hk2 : ∀ k', KS k' → W2.heap[k']? = w.heap[k']? := fun k' hk' => (hb2.block k' (by have := hwr k' hk'; simp; omega)).trans ((Below.heap_alloc _ _ _ (hwr k' hk')).trans (HKR.out k' hk'))
      have HK2 := Lib.hid hk2
      have hg2 : wr.grownBy W2 none := grown_trans (World.grownBy_alloc wr _ none) (below_grown (B := 0) hb2 none)
      have hJ2 : J (thoseL f 0 (ps.take k)) W2 := hJ _ wr _ none hJk hg2 (fun r e => by cases e)
      have hbx : Blk (wr.alloc (.cells #[.int .i64 p.f0, .int .i64 p.f1, .int .i64 p.f2, .int .i64 p.f3, .int .i64 p.f4, .int .i64 p.f5, .int .i64 p.f6] 27)) wr.heap.size 27 [.int .i64 p.f0, .int .i64 p.f1, .int .i64 p.f2, .int .i64 p.f3, .int .i64 p.f4, .int .i64 p.f5, .int .i64 p.f6] := Blk.newA _ _ _ _ rfl
      have hbx2 := hbx.belowS hb2
      clear hk2 hbx hg2 hb2 hwr
      cases hf : f k p with
      | false =>
        have HF := Lib.hid hf
        clear hf hbx2
        gi_wp2
        refine ⟨(fun _ e => by cases e), ?_⟩
        gi_wp2
        go_roundw
        case rel =>
          refine ⟨k + 1, by omega, by go_num, ?_, HK2.out⟩
          rw [HSN.out, HF.out, if_neg (by decide), List.append_nil]
          exact hJ2
        case measure => simp [intOf]; omega
      | true =>
        have HF := Lib.hid hf
        clear hf
        have hsn := HSN.out
        rw [HF.out, if_pos rfl] at hsn
        have hpre : thoseL f 0 (ps.take k) ++ [p] <+: thoseL f 0 ps := by
          rw [← hsn]
          have := thoseL_prefix f (ps.take (k + 1)) (ps.drop (k + 1)) 0
          rwa [List.take_append_drop] at this
        obtain ⟨fn', tmps, assign, body, hy, hRR⟩ := hY (thoseL f 0 (ps.take k)) p W2 hJ2 hpre
        have HS2 := Lib.hid hsn
        have z0 := hbx2.cell (j := 0) rfl
        have z1 := hbx2.cell (j := 1) rfl
        have z2 := hbx2.cell (j := 2) rfl
        have z3 := hbx2.cell (j := 3) rfl
        have z4 := hbx2.cell (j := 4) rfl
        have z5 := hbx2.cell (j := 5) rfl
        have z6 := hbx2.cell (j := 6) rfl
        clear hsn hpre x0 x1 x2 x3 x4 x5 x6 cL1 HSN hbx2
        dsimp only [pvA] at hy
        unfold pv at hy
        gi_wp2
        refine hRR.mono ?_
        rintro e W3 ⟨rfl, hJ3, hk3⟩
        gi_wp2
        go_roundw
        case rel =>
          refine ⟨k + 1, by omega, by go_num, ?_, fun k' hk' => (hk3 k' hk').trans (HK2.out k' hk')⟩
          rw [HS2.out]
          exact hJ3
        case measure => simp [intOf]; omega
    · obtain rfl : k = n := by omega
      rw [List.take_of_length_le (by rw [HM.out]; exact Nat.le_refl _)] at hJk
      gi_wp2
      go_end0
      exact ⟨⟨_, rfl⟩, hJk⟩
end Go.Proofs.YtooogaogbffjfaaDoor.Ext
end
section
set_option linter.unusedVariables false
set_option linter.unusedSimpArgs false
namespace Go.Proofs.YtooogaogbffjfaaDoor.Ext
set_option maxRecDepth 100000
open Go.RowKit Go.Proofs.YtooogaogbffjfaaDoorW.PrintWords Go.Proofs.YtooogaogbffjfaaDoorW.PrintLast Go.Proofs.YtooogaogbffjfaaDoorW.PrintMore Go.Proofs.YtooogaogbffjfaaDoor.PK Go.Proofs.YtooogaogbffjfaaDoor.Bk
attribute [local go_sem] Oper.semAt_some
theorem eq_items (cs : List Int) (is : List Nat) (h : ∀ i ∈ is, i < cs.length) (w : World) : (Op.eqItems 9999 3 1 (ints cs).toArray (ints (List.replicate cs.length 0)).toArray is).run Tryd.prog w = .ok (is.all fun i => cs.getD i 0 == 0) w := by
  induction is with
  | nil => simp [Op.eqItems]
  | cons i is ih =>
    have hi := h i (by simp)
    have ha : (Go.part 3 (ints cs).toArray (i * 1)).run Tryd.prog w = .ok (.int .i64 (cs.getD i 0)) w := run_part_plain w (by kernel_rfl) (by simp [ints, List.getD_eq_getElem?_getD, hi])
    have hb : (Go.part 3 (ints (List.replicate cs.length 0)).toArray (i * 1)).run Tryd.prog w = .ok (.int .i64 0) w := run_part_plain w (by kernel_rfl) (by simp [ints, hi])
    have he : (Op.equalIn 9999 3 (.int .i64 (cs.getD i 0)) (.int .i64 0)).run Tryd.prog w = .ok (cs.getD i 0 == 0) w := run_equalIn_int w 9998 _ .i64 .i64 _ _ Tryd.underlying3
    simp only [Op.eqItems, Sem.run_bind, ha, hb, he, Result.andThen_ok]
    cases hq : (cs.getD i 0 == 0) with
    | false => rw [List.all_cons, hq]; rfl
    | true =>
      have := ih (fun j hj => h j (by simp [hj]))
      rw [List.all_cons, hq, Bool.true_and, ← this]; rfl
theorem eq_zero16 (cs : List Int) (hl : cs.length = 16) (r : Bool) (hr : (List.range 16).all (fun i => cs.getD i 0 == 0) = r) (w : World) : (Op.equalIn 10000 85 (.agg (ints cs).toArray) (.agg (ints (List.replicate 16 0)).toArray)).run Tryd.prog w = .ok r w := by
  obtain ⟨i0, hi, _⟩ := Option.map_eq_some_iff.1 info3
  rw [run_equalIn_array w 9999 _ _ Tryd.underlying85 hi]
  have := eq_items cs (List.range 16) (fun i hi => by rw [hl]; exact List.mem_range.1 hi) w
  rw [hl, hr] at this
  exact this
theorem bal_reads {W : World} {g k : Nat} {bs : List Int} (hB : Blk W g 85 (ints bs)) (hl : bs.length = 16) (hk : k ≤ 16) : ReadsOf (Value.int .i64) (0 : Int) W (some ⟨g, 0, none⟩) k (bs.take k) :=
  ⟨by simp; omega, by omega, fun _ => ⟨⟨g, 0, none⟩, rfl, fun j hj => by
    have h := hB.cell (j := j) (ints_get (List.getElem?_eq_getElem (show j < bs.length by omega)))
    rw [List.getD_eq_getElem?_getD, List.getElem?_take_of_lt hj, List.getElem?_eq_getElem (show j < bs.length by omega)]
    have e : (⟨g, 0, none⟩ : Addr).add j = ⟨g, j, none⟩ := by simp only [Addr.add]; split <;> simp_all
    rw [e]; exact h⟩⟩
theorem slice16 (k : Nat) (hk : k ≤ 16) (g : Nat) (w : World) : (Instr.sliceAt 85 (.pointer (some ⟨g, 0, none⟩)) none (some (.int .i64 (k : Int))) none).run Tryd.prog w = .ok (.slice (some ⟨g, 0, none⟩) k 16) w := by
  have ha : Tryd.prog.arrayLen 85 = 16 := by kernel_rfl
  have he : Tryd.prog.elem 85 = 3 := by kernel_rfl
  obtain ⟨i0, hi, _⟩ := Option.map_eq_some_iff.1 info3
  rw [run_sliceAt_array_h w 85 ⟨g, 0, none⟩ (by rw [ha, he]; exact Tryd.underlying85) .i64 (k : Int) (by omega) (by rw [ha]; omega), he, ha, run_sizeOf w hi]
  simp [slicedAt, Addr.add]
set_option maxRecDepth 100000 in
set_option maxHeartbeats 4000000 in
theorem list_zero (x0 x1 x2 x3 x4 x5 x6 x7 x8 x9 x10 x11 x12 x13 x14 x15 : Int) (k : Nat) (hk : k ≤ 16) (w : World) (heq : ∀ w : World, (Op.equalIn 10000 85 (.agg #[.int .i64 x0, .int .i64 x1, .int .i64 x2, .int .i64 x3, .int .i64 x4, .int .i64 x5, .int .i64 x6, .int .i64 x7, .int .i64 x8, .int .i64 x9, .int .i64 x10, .int .i64 x11, .int .i64 x12, .int .i64 x13, .int .i64 x14, .int .i64 x15]) (.agg #[.int .i64 0, .int .i64 0, .int .i64 0, .int .i64 0, .int .i64 0, .int .i64 0, .int .i64 0, .int .i64 0, .int .i64 0, .int .i64 0, .int .i64 0, .int .i64 0, .int .i64 0, .int .i64 0, .int .i64 0, .int .i64 0])).run Tryd.prog w = .ok true w) (hz : [x0, x1, x2, x3, x4, x5, x6, x7, x8, x9, x10, x11, x12, x13, x14, x15].take k = List.replicate k 0) :
    Calls Tryd.prog 45 #[.agg #[.int .i64 x0, .int .i64 x1, .int .i64 x2, .int .i64 x3, .int .i64 x4, .int .i64 x5, .int .i64 x6, .int .i64 x7, .int .i64 x8, .int .i64 x9, .int .i64 x10, .int .i64 x11, .int .i64 x12, .int .i64 x13, .int .i64 x14, .int .i64 x15], .int .i64 (k : Int)] w fun e w' => ∃ v, e = .returned v ∧ Kd.R (Kd.int .i64) 3 w' w.heap.size (fun _ => True) v ([x0, x1, x2, x3, x4, x5, x6, x7, x8, x9, x10, x11, x12, x13, x14, x15].take k) ∧ Below w.heap.size w w' := by
  have HZ := Lib.hid hz
  clear hz
  go_enter Tryd.func45, Tryd.ntmps45
  go_wp2_with (first | (refine Kd.R_make (Kd.int .i64) _ 3 rfl (N := 9) rfl 46 _ _ rfl (k : Int) rfl rfl Tryd.underlying46 (.int .i64 0) 8 info3 rfl (by decide) (by omega) 0 (ok := fun _ => True) (okp := fun _ => True) rfl (fun _ hk => hk) trivial (by omega) (by rw [Int.toNat_natCast]; omega) (Below.refl _ _) (Nat.le_refl _) ?_; intro v1 w1 ho1 hb1 hg1 hn1) | fail)
  go_ret
  refine ⟨_, rfl, ?_, Below.trans ((Below.refl _ _).alloc (Nat.le_refl _) _) (hb1.mono (by simp))⟩
  rw [HZ.out]
  rw [Int.toNat_natCast] at ho1
  exact Kd.R_lower ho1 (by simp)
set_option maxRecDepth 100000 in
set_option maxHeartbeats 4000000 in
theorem list_some (x0 x1 x2 x3 x4 x5 x6 x7 x8 x9 x10 x11 x12 x13 x14 x15 : Int) (k : Nat) (hk : k ≤ 16) (w : World) (heq : ∀ w : World, (Op.equalIn 10000 85 (.agg #[.int .i64 x0, .int .i64 x1, .int .i64 x2, .int .i64 x3, .int .i64 x4, .int .i64 x5, .int .i64 x6, .int .i64 x7, .int .i64 x8, .int .i64 x9, .int .i64 x10, .int .i64 x11, .int .i64 x12, .int .i64 x13, .int .i64 x14, .int .i64 x15]) (.agg #[.int .i64 0, .int .i64 0, .int .i64 0, .int .i64 0, .int .i64 0, .int .i64 0, .int .i64 0, .int .i64 0, .int .i64 0, .int .i64 0, .int .i64 0, .int .i64 0, .int .i64 0, .int .i64 0, .int .i64 0, .int .i64 0])).run Tryd.prog w = .ok false w) :
    Calls Tryd.prog 45 #[.agg #[.int .i64 x0, .int .i64 x1, .int .i64 x2, .int .i64 x3, .int .i64 x4, .int .i64 x5, .int .i64 x6, .int .i64 x7, .int .i64 x8, .int .i64 x9, .int .i64 x10, .int .i64 x11, .int .i64 x12, .int .i64 x13, .int .i64 x14, .int .i64 x15], .int .i64 (k : Int)] w fun e w' => ∃ v, e = .returned v ∧ Kd.R (Kd.int .i64) 3 w' w.heap.size (fun _ => True) v ([x0, x1, x2, x3, x4, x5, x6, x7, x8, x9, x10, x11, x12, x13, x14, x15].take k) ∧ Below w.heap.size w w' := by
  have hsl := fun (g : Nat) (w : World) => slice16 k hk g w
  have hB0 := Blk.new w 85 (ints [x0, x1, x2, x3, x4, x5, x6, x7, x8, x9, x10, x11, x12, x13, x14, x15])
  have HB0 := Lib.hid hB0
  clear hB0
  go_enter Tryd.func45, Tryd.ntmps45
  go_wp2_with (first | (refine Kd.R_lit (Kd.int .i64) (w0 := w) w.heap.size 3 rfl (N := 10) rfl (xs := ([] : List Int)) (inner := []) (ok := fun _ => True) (okp := fun _ => True) ?hr ?hp (fun _ hk => hk) trivial ((Below.refl _ _).alloc (Nat.le_refl _) _) (by simp) (by simp) ?_; (case hr => first | (go_simp; done) | (go_simp; rfl)); (case hp => exact (Reps.none _ _)); intro v1 w1 ho1 hb1 hg1 hn1; obtain ⟨a1, k1, rfl⟩ := Kd.R_slice ho1; have HO1 := Lib.hid ho1; have HX1 := Lib.hid hb1; have HG1 := Lib.hid hg1; clear ho1 hb1 hg1 hn1) | (refine Kd.R_append_rows (Kd.int .i64) (w0 := w) w.heap.size rfl (.tmp 10) (.tmp 12) 46 3 (.int .i64 0) 8 rfl Tryd.underlying46 info3 rfl (by decide) (by omega) (.slice a1 0 k1) [] ([x0, x1, x2, x3, x4, x5, x6, x7, x8, x9, x10, x11, x12, x13, x14, x15].take k) _ _ _ (fun _ => True) (fun _ => False) rfl rfl ?aO ?aR (fun _ _ h => h) (fun _ h => h.elim) ?aF ?aB ?aS ?aL ?_; (case aR => exact Kd.C_of_reads (bal_reads (HB0.out.grown HG1.out (by simp)) rfl hk)); (case aB => exact HX1.out); (case aF => exact fun _ _ => trivial); (case aO => exact HO1.out); (case aS => exact HX1.out.size); (case aL => simp; omega); intro v2 w2 ho2 hb2 hg2 hn2) | fail)
  go_ret
  exact ⟨_, rfl, ho2, hb2⟩
end Go.Proofs.YtooogaogbffjfaaDoor.Ext
end
section
set_option linter.unusedVariables false
set_option linter.unusedSimpArgs false
namespace Go.Proofs.YtooogaogbffjfaaDoor.Ext
set_option maxRecDepth 100000
open Go.RowKit Go.Shelf Go.Proofs.YtooogaogbffjfaaDoorW.PrintWords Go.Proofs.YtooogaogbffjfaaDoorW.PrintLast Go.Proofs.YtooogaogbffjfaaDoorW.PrintMore Go.Proofs.YtooogaogbffjfaaDoor.PK Go.Proofs.YtooogaogbffjfaaDoor.Bk
attribute [local go_sem] Oper.semAt_some
theorem list_walk (bs : List Int) (hl : bs.length = 16) (k : Nat) (hk : k ≤ 16) (w : World) :
    Calls Tryd.prog 45 #[.agg (ints bs).toArray, .int .i64 (k : Int)] w fun e w' => ∃ v, e = .returned v ∧ Kd.R (Kd.int .i64) 3 w' w.heap.size (fun _ => True) v (bs.take k) ∧ Below w.heap.size w w' := by
  match bs, hl with
  | [x0, x1, x2, x3, x4, x5, x6, x7, x8, x9, x10, x11, x12, x13, x14, x15], hl =>
    cases hr : (List.range 16).all (fun i => [x0, x1, x2, x3, x4, x5, x6, x7, x8, x9, x10, x11, x12, x13, x14, x15].getD i 0 == 0) with
    | true =>
      have hz : [x0, x1, x2, x3, x4, x5, x6, x7, x8, x9, x10, x11, x12, x13, x14, x15] = List.replicate 16 0 := by
        simp [List.range, List.range.loop] at hr
        simp [hr, List.replicate]
      refine list_zero x0 x1 x2 x3 x4 x5 x6 x7 x8 x9 x10 x11 x12 x13 x14 x15 k hk w (fun w => eq_zero16 _ hl true hr w) ?_
      rw [hz, List.take_replicate, Nat.min_eq_left hk]
    | false => exact list_some x0 x1 x2 x3 x4 x5 x6 x7 x8 x9 x10 x11 x12 x13 x14 x15 k hk w (fun w => eq_zero16 _ hl false hr w)
def sumB (l : List S27) : List Int := l.foldl addB (List.replicate 16 0)
theorem sumB_snoc (l : List S27) (p : S27) : sumB (l ++ [p]) = addB (sumB l) p := by simp [sumB]
theorem sumB_len (l : List S27) : (sumB l).length = 16 := by
  rcases List.eq_nil_or_concat l with rfl | ⟨l, p, rfl⟩
  · rfl
  · rw [List.concat_eq_append, sumB_snoc, addB_len]
    have : ∀ (l : List S27) (bs : List Int), bs.length = 16 → (l.foldl addB bs).length = 16 := by
      intro l
      induction l with
      | nil => intro bs h; exact h
      | cons q r ih => intro bs h; exact ih _ (by rw [addB_len]; exact h)
    exact this l _ rfl
def Book1 (p : S27) : Prop := (0 ≤ p.f2 ∧ p.f2 ≤ 15) ∧ (0 ≤ p.f3 ∧ p.f3 ≤ 15) ∧ p.f2 ≠ p.f3 ∧ (1 ≤ p.f4 ∧ p.f4 ≤ 1000000000000) ∧ (0 ≤ p.f1 ∧ p.f1 ≤ 359)
theorem book1_of {acc : Int} {p : S27} (ha : 2 ≤ acc ∧ acc ≤ 16) (h : formedB acc p = true) : Book1 p := by
  unfold formedB at h
  have h := of_decide_eq_true h
  have e : wrap64 (acc - 1) = acc - 1 := by unfold wrap64; omega
  rw [e] at h
  exact ⟨by omega, by omega, h.2.2.2.1, h.2.2.2.2.1, h.1⟩
theorem next_formed {n : Int} {l : List S27} {p : S27} (h : nextB n l p = true) : formedB n p = true := by
  unfold nextB at h
  rw [Bool.and_eq_true, Bool.and_eq_true] at h
  exact h.2.1
theorem okAll_formed {n : Int} (ps : List S27) : ∀ pre : List S27, okAll n pre ps = true → ∀ p ∈ ps, formedB n p = true := by
  induction ps with
  | nil => intro pre h p hp; cases hp
  | cons q r ih =>
    intro pre h p hp
    rw [okAll, Bool.and_eq_true] at h
    rcases List.mem_cons.1 hp with rfl | hp
    · exact next_formed h.1
    · exact ih _ h.2 p hp
theorem acc_of {acc clo : Int} (h : inB acc clo = true) : 2 ≤ acc ∧ acc ≤ 16 := by
  unfold inB at h
  exact (of_decide_eq_true h).1
theorem sumB_bound (l : List S27) (h : ∀ p ∈ l, Book1 p) : ∀ x ∈ sumB l, -((l.length : Int) * 1000000000000) ≤ x ∧ x ≤ (l.length : Int) * 1000000000000 := by
  generalize hm : l.length = m
  induction m generalizing l with
  | zero =>
    intro x hx
    have : l = [] := List.eq_nil_of_length_eq_zero hm
    subst this
    have := List.eq_of_mem_replicate hx
    omega
  | succ m ih =>
    rcases List.eq_nil_or_concat l with rfl | ⟨l, p, rfl⟩
    · simp at hm
    · rw [List.concat_eq_append] at *
      have hm2 : l.length = m := by simpa using hm
      have hp := h p (by simp)
      have ih2 := ih l (fun q hq => h q (by simp [hq])) hm2
      have hz : ∀ j, -((m : Int) * 1000000000000) ≤ (sumB l).getD j 0 ∧ (sumB l).getD j 0 ≤ (m : Int) * 1000000000000 := by
        intro j
        by_cases hj : j < (sumB l).length
        · have := ih2 _ (List.getElem_mem hj)
          simpa [List.getD_eq_getElem?_getD, hj] using this
        · have : (sumB l).getD j 0 = 0 := by simp [List.getD_eq_getElem?_getD, hj]
          rw [this]; omega
      intro x hx
      rw [sumB_snoc, addB] at hx
      unfold Book1 at hp
      have h2 := hz p.f2.toNat
      have h3 := hz p.f3.toNat
      rcases List.mem_or_eq_of_mem_set hx with hx | rfl
      · rcases List.mem_or_eq_of_mem_set hx with hx | rfl
        · have := ih2 x hx; omega
        · omega
      · omega
theorem thoseL_mem (f : Nat → S27 → Bool) (l : List S27) : ∀ i, ∀ p ∈ thoseL f i l, p ∈ l := by
  induction l with
  | nil => intro i p h; cases h
  | cons q r ih =>
    intro i p h
    rw [thoseL] at h
    split at h
    · rcases List.mem_cons.1 h with rfl | h
      · simp
      · exact List.mem_cons_of_mem _ (ih _ p h)
    · exact List.mem_cons_of_mem _ (ih _ p h)
theorem thoseL_len (f : Nat → S27 → Bool) (l : List S27) : ∀ i, (thoseL f i l).length ≤ l.length := by
  induction l with
  | nil => intro i; simp [thoseL]
  | cons q r ih =>
    intro i
    have := ih (i + 1)
    rw [thoseL]
    split <;> simp <;> omega
theorem add_step (g : Nat) (l : List S27) (p : S27) (h : ∀ q ∈ l ++ [p], Book1 q) (hl : l.length ≤ 200) (w : World) (hB : Blk w g 85 (ints (sumB l))) :
    Calls Tryd.prog 44 #[.pointer (some ⟨g, 0, none⟩), pv p] w fun e w' => e = .returned (.tuple #[]) ∧ w.grownBy w' (some g) ∧ Blk w' g 85 (ints (sumB (l ++ [p]))) := by
  have hp := h p (by simp)
  have hb := sumB_bound l (fun q hq => h q (by simp [hq]))
  unfold Book1 at hp
  obtain ⟨⟨h20, h21⟩, ⟨h30, h31⟩, hne, ⟨h40, h41⟩, _⟩ := hp
  obtain ⟨d, hd⟩ := Int.eq_ofNat_of_zero_le h20
  obtain ⟨c, hc⟩ := Int.eq_ofNat_of_zero_le h30
  have hlen := sumB_len l
  have hcx := List.getElem?_eq_getElem (show c < (sumB l).length by omega)
  have hdx := List.getElem?_eq_getElem (show d < (sumB l).length by omega)
  have bx := hb _ (List.getElem_mem (show c < (sumB l).length by omega))
  have bd := hb _ (List.getElem_mem (show d < (sumB l).length by omega))
  refine (add_walk g (sumB l) hlen p c d hc hd (by omega) (by omega) (by omega) _ _ hcx hdx _ _ (IntWalk.i64_in _ (by omega)) (IntWalk.i64_in _ (by omega)) w hB).mono ?_
  rintro e w' ⟨h1, h2, h3⟩
  refine ⟨h1, h2, ?_⟩
  rw [sumB_snoc, addB, hd, hc, Int.toNat_natCast, Int.toNat_natCast, List.getD_eq_getElem?_getD, List.getD_eq_getElem?_getD, hcx, hdx]
  exact h3
def stF (month : Int) (_ : Nat) (p : S27) : Bool := p.f1 / 30 == month
def stL (month : Int) (ps : List S27) : List Int := sumB (thoseL (stF month) 0 ps)
def owL (subject : Int) (ps : List S27) : List Int := sumB (thoseL (owedF subject (backs ps)) 0 ps)
theorem zero_bal (W : World) : Sem.run Tryd.prog (zeroValue 85) W = .ok (.agg (ints (List.replicate 16 0)).toArray) W := by
  kernel_rfl
end Go.Proofs.YtooogaogbffjfaaDoor.Ext
end
section
set_option linter.unusedVariables false
set_option linter.unusedSimpArgs false
namespace Go.Proofs.YtooogaogbffjfaaDoor.Ext
set_option maxRecDepth 100000
open Go.RowKit Go.Shelf Go.Proofs.YtooogaogbffjfaaDoorW.PrintWords Go.Proofs.YtooogaogbffjfaaDoorW.PrintLast Go.Proofs.YtooogaogbffjfaaDoorW.PrintMore Go.Proofs.YtooogaogbffjfaaDoor.PK Go.Proofs.YtooogaogbffjfaaDoor.Bk
attribute [local go_sem] Oper.semAt_some
theorem R_putObj {α : Type} {d : Kd α} {e base : Nat} {w : World} {v : Value} {xs : List α} {D : Nat} (h : Kd.R d e w base (fun _ => True) v xs) (hD : D < base) (o : Obj) : Kd.R d e (w.putObj D o) base (fun _ => True) v xs :=
  Kd.R_mono (Kd.R_move (Kd.R_bound h) (fun k hk => World.putObj_heap_other (by have := hk.2.1; omega))) (fun _ _ => trivial)
theorem month_cell (w : World) (acc clo month : Int) (A : Option Addr) (n k : Nat) {w2 : World} (hb : Below ((w.alloc (.cells #[.int .i64 acc, .slice A n k, .int .i64 clo] 24)).alloc (.cells #[.int .i64 month] 3)).heap.size ((w.alloc (.cells #[.int .i64 acc, .slice A n k, .int .i64 clo] 24)).alloc (.cells #[.int .i64 month] 3)) w2) :
    w2.cell? ⟨w.heap.size + 1, 0, none⟩ = some (.int .i64 month) := keepB hb (c_new _ _ _ _ _ _ rfl (by simp))
theorem acc_cell (w : World) (acc clo month : Int) (A : Option Addr) (n k : Nat) {w2 : World} (hb : Below ((w.alloc (.cells #[.int .i64 acc, .slice A n k, .int .i64 clo] 24)).alloc (.cells #[.int .i64 month] 3)).heap.size ((w.alloc (.cells #[.int .i64 acc, .slice A n k, .int .i64 clo] 24)).alloc (.cells #[.int .i64 month] 3)) w2) :
    w2.cell? ⟨w.heap.size, 0, none⟩ = some (.int .i64 acc) := keepB hb (c_old (c_new _ _ _ _ _ _ rfl rfl))
set_option maxRecDepth 100000 in
set_option maxHeartbeats 4000000 in
theorem Statement_no1 (acc clo : Int) (A : Option Addr) (c : Nat) (ps : List S27) (month : Int) (w : World) (hr : Kd.C k27 w A ps.length ps) (hn : ps.length ≤ 1000000) (ho : okAll acc [] ps = false) :
    Calls Tryd.prog 18 #[.agg #[.int .i64 acc, .slice A ps.length c, .int .i64 clo], .int .i64 month] w fun e w' => e = .returned (.tuple #[.slice none 0 0, .int .i64 240]) ∧ Below w.heap.size w w' := by
  have HR := Lib.hid hr
  have HO := Lib.hid ho
  clear hr ho
  refine calls_of_wp_marks Tryd.func18 rfl ?_
  simp only [Tryd.ntmps18, List.size_toArray, List.length_cons, List.length_nil, Nat.reduceAdd, Nat.reduceSub, Array.replicate_succ, Array.replicate_zero, List.push_toArray, List.append_toArray, List.nil_append, List.cons_append]
  go_wp2_with (first | (go_at_call 33; refine (open_no acc clo A c ps _ (Kd.C_alloc (Kd.C_alloc HR.out _) _) hn HO.out).mono ?_; rintro e w2 ⟨rfl, hb2⟩) | fail)
  refine ⟨_, results_tmp2 rfl _ _ _, rfl, Below.trans (below2 w _ _) (hb2.mono (below2 w _ _).size)⟩
set_option maxRecDepth 100000 in
set_option maxHeartbeats 4000000 in
theorem Statement_no2 (acc clo : Int) (A : Option Addr) (c : Nat) (ps : List S27) (month : Int) (w : World) (hr : Kd.C k27 w A ps.length ps) (hn : ps.length ≤ 1000000) (ho : okAll acc [] ps = true) (hi : inB acc clo = false) :
    Calls Tryd.prog 18 #[.agg #[.int .i64 acc, .slice A ps.length c, .int .i64 clo], .int .i64 month] w fun e w' => e = .returned (.tuple #[.slice none 0 0, .int .i64 240]) ∧ Below w.heap.size w w' := by
  have HPS := Lib.hid (okAll_200 ho)
  have HB1 := Lib.hid (okAll_formed ps [] ho)
  have HR := Lib.hid hr
  have HO := Lib.hid ho
  have HI := Lib.hid hi
  clear hr ho hi
  refine calls_of_wp_marks Tryd.func18 rfl ?_
  simp only [Tryd.ntmps18, List.size_toArray, List.length_cons, List.length_nil, Nat.reduceAdd, Nat.reduceSub, Array.replicate_succ, Array.replicate_zero, List.push_toArray, List.append_toArray, List.nil_append, List.cons_append]
  go_wp2_with (first | (go_at_call 33; refine (open_yes acc clo A c ps _ (Kd.C_alloc (Kd.C_alloc HR.out _) _) hn HO.out false HI.out).mono ?_; rintro e w2 ⟨B, rfl, hL2⟩) | fail)
  refine ⟨_, results_tmp2 rfl _ _ _, rfl, Below.trans (below2 w _ _) (hL2.1.mono (below2 w _ _).size)⟩
set_option maxRecDepth 100000 in
set_option maxHeartbeats 4000000 in
theorem Statement_no3 (acc clo : Int) (A : Option Addr) (c : Nat) (ps : List S27) (month : Int) (w : World) (hr : Kd.C k27 w A ps.length ps) (hn : ps.length ≤ 1000000) (ho : okAll acc [] ps = true) (hi : inB acc clo = true) (hm : decide (0 ≤ month ∧ month ≤ 11) = false) :
    Calls Tryd.prog 18 #[.agg #[.int .i64 acc, .slice A ps.length c, .int .i64 clo], .int .i64 month] w fun e w' => e = .returned (.tuple #[.slice none 0 0, .int .i64 240]) ∧ Below w.heap.size w w' := by
  have HPS := Lib.hid (okAll_200 ho)
  have HB1 := Lib.hid (okAll_formed ps [] ho)
  have HR := Lib.hid hr
  have HO := Lib.hid ho
  have HI := Lib.hid hi
  have HM := Lib.hid hm
  clear hm
  clear hr ho hi
  refine calls_of_wp_marks Tryd.func18 rfl ?_
  simp only [Tryd.ntmps18, List.size_toArray, List.length_cons, List.length_nil, Nat.reduceAdd, Nat.reduceSub, Array.replicate_succ, Array.replicate_zero, List.push_toArray, List.append_toArray, List.nil_append, List.cons_append]
  go_wp2_with (first | (go_at_call 33; refine (open_yes acc clo A c ps _ (Kd.C_alloc (Kd.C_alloc HR.out _) _) hn HO.out true HI.out).mono ?_; rintro e w2 ⟨B, rfl, hL2⟩; have hm2 := month_cell w _ _ _ _ _ _ hL2.1) | (go_at_call 41; (with_reducible refine (isIn_walk' month 0 11 false HM.out _).mono ?_); rintro e w4 ⟨rfl, hd4⟩) | fail)
  refine ⟨_, results_tmp2 rfl _ _ _, rfl, Below.trans (Below.trans (below2 w _ _) (hL2.1.mono (below2 w _ _).size)) (hd4.below.mono (Nat.le_trans (below2 w _ _).size hL2.1.size))⟩
set_option maxRecDepth 100000 in
set_option maxHeartbeats 4000000 in
theorem Statement_yes (acc clo : Int) (A : Option Addr) (c : Nat) (ps : List S27) (month : Int) (w : World) (hr : Kd.C k27 w A ps.length ps) (hn : ps.length ≤ 1000000) (ho : okAll acc [] ps = true) (hi : inB acc clo = true) (hm : decide (0 ≤ month ∧ month ≤ 11) = true) :
    Calls Tryd.prog 18 #[.agg #[.int .i64 acc, .slice A ps.length c, .int .i64 clo], .int .i64 month] w fun e w' => ∃ v : Value, e = .returned (.tuple #[v, .int .i64 0]) ∧ Kd.R (Kd.int .i64) 3 w' w.heap.size (fun _ => True) v ((stL month ps).take acc.toNat) ∧ Below w.heap.size w w' := by
  have HPS := Lib.hid (okAll_200 ho)
  have HB1 := Lib.hid (okAll_formed ps [] ho)
  have HR := Lib.hid hr
  have HO := Lib.hid ho
  have HI := Lib.hid hi
  have HM := Lib.hid hm
  clear hm
  clear hr ho hi
  refine calls_of_wp_marks Tryd.func18 rfl ?_
  simp only [Tryd.ntmps18, List.size_toArray, List.length_cons, List.length_nil, Nat.reduceAdd, Nat.reduceSub, Array.replicate_succ, Array.replicate_zero, List.push_toArray, List.append_toArray, List.nil_append, List.cons_append]
  obtain ⟨Z, hZ⟩ : ∃ Z, List.replicate 16 (0 : Int) = Z := ⟨_, rfl⟩
  have hz := zero_bal
  rw [hZ] at hz
  have hZ0 : sumB [] = Z := hZ
  have HZ := Lib.hid hZ0
  clear hZ hZ0
  go_wp2_with (first | (go_at_call 33; refine (open_yes acc clo A c ps _ (Kd.C_alloc (Kd.C_alloc HR.out _) _) hn HO.out true HI.out).mono ?_; rintro e w2 ⟨B, rfl, hL2⟩; have hm2 := month_cell w _ _ _ _ _ _ hL2.1) | (go_at_call 41; (with_reducible refine (isIn_walk' month 0 11 true HM.out _).mono ?_); rintro e w4 ⟨rfl, hd4⟩) | fail)
  have HL4 := Lib.hid (hL2.below hd4.below)
  have hb4 : Below w.heap.size w w4 := Below.trans (below2 w _ _) (HL4.out.1.mono (below2 w _ _).size)
  have hm4 := keepB hd4.below hm2
  have ha4 := acc_cell w _ _ _ _ _ _ HL4.out.1
  have hsz4 : w.heap.size + 1 < w4.heap.size := World.block_lt_of_cell? w4 _ hm4
  obtain ⟨a', k', nn, hnn, hLed, hR', hne⟩ := led_own HL4.out
  have hps0 : ps = [] → a' = none := fun h0 => by
    obtain ⟨_, _, v, l1, _, _, l4⟩ := HL4.out
    have e1 := l1.cell (j := 1) rfl
    have e2 := hLed.cell (j := 1) rfl
    rw [e1] at e2
    injection e2 with e2
    rw [l4 h0] at e2
    injection e2 with e2 _ _
    exact e2.symm
  obtain ⟨hnp, hnk, hC'⟩ := Kd.R_reads' hR'
  have hB4 := hLed.lt
  refine (those_walk B 43 _ _).mono ?_
  rintro e w5 ⟨rfl, rfl⟩
  obtain ⟨O, hO⟩ : ∃ O, w4.heap.size = O := ⟨_, rfl⟩
  have hO1 : (w4.alloc (.cells (ints Z).toArray 85)).heap.size = O + 1 := by simp [hO]
  have hbW : Below w4.heap.size w4 (((w4.alloc (.cells (ints Z).toArray 85)).alloc (.cells #[.pointer (some ⟨B, 0, none⟩)] 68)).alloc (.cells #[.func (.func 43) #[] #[.pointer (some ⟨w.heap.size + 1, 0, none⟩)]] 88)) := below3 w4 _ _ _
  have hBO : Blk (((w4.alloc (.cells (ints Z).toArray 85)).alloc (.cells #[.pointer (some ⟨B, 0, none⟩)] 68)).alloc (.cells #[.func (.func 43) #[] #[.pointer (some ⟨w.heap.size + 1, 0, none⟩)]] 88)) O 85 (ints (sumB [])) := by
    rw [HZ.out, ← hO]
    exact ((Blk.new w4 85 (ints Z)).alloc _).alloc _
  have cL : (((w4.alloc (.cells (ints Z).toArray 85)).alloc (.cells #[.pointer (some ⟨B, 0, none⟩)] 68)).alloc (.cells #[.func (.func 43) #[] #[.pointer (some ⟨w.heap.size + 1, 0, none⟩)]] 88)).cell? ⟨O + 1, 0, none⟩ = some (.pointer (some ⟨B, 0, none⟩)) := c_old (c_new _ _ _ _ _ _ rfl (by simp [hO]))
  have cL1 : (((w4.alloc (.cells (ints Z).toArray 85)).alloc (.cells #[.pointer (some ⟨B, 0, none⟩)] 68)).alloc (.cells #[.func (.func 43) #[] #[.pointer (some ⟨w.heap.size + 1, 0, none⟩)]] 88)).cell? ⟨O + 1 + 1, 0, none⟩ = some (.func (.func 43) #[] #[.pointer (some ⟨w.heap.size + 1, 0, none⟩)]) := c_new _ _ _ _ _ _ rfl (by simp [hO])
  have cM : (((w4.alloc (.cells (ints Z).toArray 85)).alloc (.cells #[.pointer (some ⟨B, 0, none⟩)] 68)).alloc (.cells #[.func (.func 43) #[] #[.pointer (some ⟨w.heap.size + 1, 0, none⟩)]] 88)).cell? ⟨w.heap.size + 1, 0, none⟩ = some (.int .i64 month) := keepB hbW hm4
  have cA : (((w4.alloc (.cells (ints Z).toArray 85)).alloc (.cells #[.pointer (some ⟨B, 0, none⟩)] 68)).alloc (.cells #[.func (.func 43) #[] #[.pointer (some ⟨w.heap.size + 1, 0, none⟩)]] 88)).cell? ⟨w.heap.size, 0, none⟩ = some (.int .i64 acc) := keepB hbW ha4
  have cB : (((w4.alloc (.cells (ints Z).toArray 85)).alloc (.cells #[.pointer (some ⟨B, 0, none⟩)] 68)).alloc (.cells #[.func (.func 43) #[] #[.pointer (some ⟨w.heap.size + 1, 0, none⟩)]] 88)).cell? ⟨B, 1, none⟩ = some (.slice a' nn k') := keepB hbW (hLed.cell rfl)
  have hC0 : Kd.C k27 (((w4.alloc (.cells (ints Z).toArray 85)).alloc (.cells #[.pointer (some ⟨B, 0, none⟩)] 68)).alloc (.cells #[.func (.func 43) #[] #[.pointer (some ⟨w.heap.size + 1, 0, none⟩)]] 88)) a' nn ps := by
    have := Kd.C_below hC' hbW
    rwa [hnn] at this
  have hAw : ∀ ad, a' = some ad → ad.block < w4.heap.size := fun ad e => by
    subst e
    have hp : 0 < ps.length := by
      rcases Nat.eq_zero_or_pos ps.length with h0 | h0
      · have := hps0 (List.eq_nil_of_length_eq_zero h0); cases this
      · exact h0
    obtain ⟨ad', e1, y0, _⟩ := at_T27 hC' 0 (by omega) (by omega)
    injection e1 with e1
    subst e1
    have := World.block_lt_of_cell? w4 _ y0
    simpa [Addr.add] using this
  rw [hO1]
  try rw [hO]
  generalize (((w4.alloc (.cells (ints Z).toArray 85)).alloc (.cells #[.pointer (some ⟨B, 0, none⟩)] 68)).alloc (.cells #[.func (.func 43) #[] #[.pointer (some ⟨w.heap.size + 1, 0, none⟩)]] 88)) = W0 at *
  have HH := Lib.hid (And.intro hb4 (And.intro hnn (And.intro hLed (And.intro hnp hC'))))
  have HX := Lib.hid (And.intro hAw (And.intro hbW (And.intro hC0 hO)))
  have HCC := Lib.hid (And.intro cL (And.intro cL1 (And.intro cM (And.intro cA cB))))
  clear hb4 hnn hLed hnp hC' hAw hbW hC0 hO hO1 cL cL1 cM cA cB hps0 hR' hne hm2 hm4 ha4 hz hL2
  go_wp2
  have hO := HX.out.2.2.2
  have hW0 := HX.out.2.1.size
  have hgiv := those1_gives B (O + 1) 43 #[.pointer (some ⟨w.heap.size + 1, 0, none⟩)] a' nn k' ps HH.out.2.1 (by have := HH.out.2.1; omega) (stF month) (fun k => k < W0.heap.size ∧ k ≠ O) W0 (fun k hk => hk.1)
    HCC.out.1 HCC.out.2.1 HCC.out.2.2.2.2 HX.out.2.2.1 ⟨World.block_lt_of_cell? W0 _ HCC.out.1, by show O + 1 ≠ O; omega⟩ ⟨World.block_lt_of_cell? W0 _ HCC.out.2.1, by show O + 1 + 1 ≠ O; omega⟩ ⟨World.block_lt_of_cell? W0 _ HCC.out.2.2.2.2, by show B ≠ O; omega⟩ (fun ad e => by have := HX.out.1 ad e; exact ⟨by show ad.block < W0.heap.size; omega, by show ad.block ≠ O; omega⟩)
    (enters_of Tryd.func43 (by kernel_rfl) rfl)
    (fun i p W hi hW => st1_walk (w.heap.size + 1) month (i : Int) p (book1_of (acc_of HI.out) (HB1.out p (List.mem_of_getElem? hi))).2.2.2.2 W (cell_of_kept (hW _ ⟨World.block_lt_of_cell? W0 _ HCC.out.2.2.1, by simp only; omega⟩) HCC.out.2.2.1))
  have HO := Lib.hid hO
  have HOW := Lib.hid hBO.lt
  clear hO
  refine wp_rangeFunc_box (d := 9) (T := 27) (gf := 60) (lb := #[.pointer (some ⟨O + 1, 0, none⟩), .pointer (some ⟨O + 1 + 1, 0, none⟩)]) rfl (enters_of Tryd.func60 (by kernel_rfl) rfl) (KS := fun k => k < W0.heap.size ∧ k ≠ O) (fun k hk => hk.1) hgiv (Below.refl _ _) (fun _ => rfl)
    (fun p => [.int .i64 p.f0, .int .i64 p.f1, .int .i64 p.f2, .int .i64 p.f3, .int .i64 p.f4, .int .i64 p.f5, .int .i64 p.f6]) ?assign (fun pre V => Blk V O 85 (ints (sumB pre)) ∧ W0.grownBy V (some O)) (OwnFrom.and (own_blk _ hBO.lt) (own_grown _ (Nat.le_refl _))) ⟨hBO, ⟨rfl, rfl, rfl, Nat.le_refl _, fun _ _ _ => rfl⟩⟩ ?body ?done
  case assign =>
    intro l' p V K hK
    have hK' := Lib.hid hK
    clear hK hgiv
    simp only [pvA]
    unfold pv
    gi_wp2
    have h := hK'.out
    simp [boxAct, pvA, pv] at h
    exact h
  case body =>
    intro l' pre p Bp V hI hBlk hBs hpre
    obtain ⟨hbV, hgr⟩ := hI
    have hmem : ∀ q ∈ pre ++ [p], Book1 q := fun q hq => book1_of (acc_of HI.out) (HB1.out q (thoseL_mem _ _ _ q (hpre.subset hq)))
    have hlen : pre.length ≤ 200 := by
      have h1 := hpre.length_le
      have h2 := thoseL_len (stF month) ps 0
      have h3 := HPS.out
      simp at h1
      omega
    have hj := add_step O pre p hmem hlen V hbV
    unfold pv at hj
    have HJ := Lib.hid hj
    clear hj
    have c0 := hBlk.cell (j := 0) rfl
    have c1 := hBlk.cell (j := 1) rfl
    have c2 := hBlk.cell (j := 2) rfl
    have c3 := hBlk.cell (j := 3) rfl
    have c4 := hBlk.cell (j := 4) rfl
    have c5 := hBlk.cell (j := 5) rfl
    have c6 := hBlk.cell (j := 6) rfl
    clear hpre hgiv hmem hlen
    simp only [boxAct, pvA]
    simp
    gi_wp2_with fail
    refine ⟨trivial, ?_⟩
    (with_reducible refine CallsIn.mono (CallsIn.inRound l' ((callsIn_wide (n := 2)).2 HJ.out)) ?_)
    rintro e W3 ⟨rfl, hg3, hb3⟩
    gi_wp2
    refine ⟨keeps_grown hg3 HOW.out, ?_, hb3, grown_trans hgr hg3⟩
    intro k' hk'
    exact hg3.block k' (Nat.lt_of_lt_of_le hk'.1 hgr.size) (fun e => hk'.2 (Option.some.inj e))
  case done =>
    rintro D V hD ⟨hbV, hgr⟩ hK
    obtain ⟨k, hk⟩ := Int.eq_ofNat_of_zero_le (show 0 ≤ acc by have := acc_of HI.out; omega)
    have hk16 : k ≤ 16 := by have := acc_of HI.out; omega
    have hst : stL month ps = sumB (thoseL (stF month) 0 ps) := rfl
    have cAV : V.cell? ⟨w.heap.size, 0, none⟩ = some (.int .i64 (k : Int)) := by
      rw [← hk]
      exact cell_of_kept (hgr.block _ (World.block_lt_of_cell? W0 _ HCC.out.2.2.2.1) (fun e => by injection e with e; simp only at e; have := HO.out; omega)) HCC.out.2.2.2.1
    rw [← hst] at hbV
    have hl16 : (stL month ps).length = 16 := sumB_len _
    have hlz : (ints (stL month ps)).length = 16 := by rw [ints_len, hl16]
    have HLW := Lib.hid (fun W => list_walk (stL month ps) hl16 k hk16 W)
    obtain ⟨bs, hbs⟩ : ∃ bs, stL month ps = bs := ⟨_, rfl⟩
    rw [hbs] at hbV hl16 hlz HLW
    have HBS := Lib.hid hbs
    clear hbs
    have hi63 : (Tryd.prog.info? 85).map (·.size) = some (ints bs).length := by rw [hlz]; kernel_rfl
    have HI63 := Lib.hid hi63
    have HR63 := Lib.hid hbV.range
    clear hst hl16 hlz hi63 hgiv hBO hbV
    have HK := Lib.hid hk
    clear hk
    go_wp2_with (first | (refine load_all (by rfl) 85 (.tmp 8) (by rfl) O (by rfl) (ints bs) HR63.out _ Tryd.underlying85 (by rfl) (by exact HI63.out) ?_) | (go_at_call 45; (with_reducible refine (HLW.out _).mono ?_); rintro e w9 ⟨v, rfl, hR9, hb9⟩) | fail)
    have hDV : D < V.heap.size := (Array.getElem?_eq_some_iff.1 hK).1
    have hD9 : w9.heap[D]? = some (.deferred (some [])) := (hb9.block D hDV).trans hK
    refine ⟨by simp, .inl ⟨_, _, rfl, run_takeDeferred hD9, ?_⟩⟩
    refine ⟨_, results_tmp2 rfl _ _ _, v, rfl, ?_, ?_⟩
    · rw [HBS.out, HK.out, Int.toNat_natCast]
      exact Kd.R_lower (R_putObj hR9 hDV _) (by have := hgr.size; have := HH.out.1.size; omega)
    · have hgs := hgr.size
      have hws := HH.out.1.size
      have b1 : Below w.heap.size w W0 := HH.out.1.trans (HX.out.2.1.mono hws)
      have b2 : Below w.heap.size w V := grown_below hgr b1 (by have := HO.out; omega) (by omega)
      have b3 : Below w.heap.size w w9 := b2.trans (hb9.mono (by omega))
      exact b3.trans (belowK_b (w := w) (Nat.le_refl _) w9 D _ _ (by omega) hD9 rfl rfl)
end Go.Proofs.YtooogaogbffjfaaDoor.Ext
end
section
set_option linter.unusedVariables false
set_option linter.unusedSimpArgs false
namespace Go.Proofs.YtooogaogbffjfaaDoor.Ext
set_option maxRecDepth 100000
open Go.RowKit Go.Shelf Go.Proofs.YtooogaogbffjfaaDoorW.PrintWords Go.Proofs.YtooogaogbffjfaaDoorW.PrintLast Go.Proofs.YtooogaogbffjfaaDoorW.PrintMore Go.Proofs.YtooogaogbffjfaaDoor.PK Go.Proofs.YtooogaogbffjfaaDoor.Bk
attribute [local go_sem] Oper.semAt_some
set_option maxRecDepth 100000 in
set_option maxHeartbeats 4000000 in
theorem Owed_no1 (acc clo : Int) (A : Option Addr) (c : Nat) (ps : List S27) (subject : Int) (w : World) (hr : Kd.C k27 w A ps.length ps) (hn : ps.length ≤ 1000000) (ho : okAll acc [] ps = false) :
    Calls Tryd.prog 20 #[.agg #[.int .i64 acc, .slice A ps.length c, .int .i64 clo], .int .i64 subject] w fun e w' => e = .returned (.tuple #[.slice none 0 0, .int .i64 240]) ∧ Below w.heap.size w w' := by
  have HR := Lib.hid hr
  have HO := Lib.hid ho
  clear hr ho
  refine calls_of_wp_marks Tryd.func20 rfl ?_
  simp only [Tryd.ntmps20, List.size_toArray, List.length_cons, List.length_nil, Nat.reduceAdd, Nat.reduceSub, Array.replicate_succ, Array.replicate_zero, List.push_toArray, List.append_toArray, List.nil_append, List.cons_append]
  go_wp2_with (first | (go_at_call 33; refine (open_no acc clo A c ps _ (Kd.C_alloc (Kd.C_alloc HR.out _) _) hn HO.out).mono ?_; rintro e w2 ⟨rfl, hb2⟩) | fail)
  refine ⟨_, results_tmp2 rfl _ _ _, rfl, (Below.trans (below2 w _ _) (hb2.mono (below2 w _ _).size)).alloc (Nat.le_trans (below2 w _ _).size hb2.size) _⟩
set_option maxRecDepth 100000 in
set_option maxHeartbeats 4000000 in
theorem Owed_no2 (acc clo : Int) (A : Option Addr) (c : Nat) (ps : List S27) (subject : Int) (w : World) (hr : Kd.C k27 w A ps.length ps) (hn : ps.length ≤ 1000000) (ho : okAll acc [] ps = true) (hi : inB acc clo = false) :
    Calls Tryd.prog 20 #[.agg #[.int .i64 acc, .slice A ps.length c, .int .i64 clo], .int .i64 subject] w fun e w' => e = .returned (.tuple #[.slice none 0 0, .int .i64 240]) ∧ Below w.heap.size w w' := by
  have HPS := Lib.hid (okAll_200 ho)
  have HB1 := Lib.hid (okAll_formed ps [] ho)
  have HR := Lib.hid hr
  have HO := Lib.hid ho
  have HI := Lib.hid hi
  clear hr ho hi
  refine calls_of_wp_marks Tryd.func20 rfl ?_
  simp only [Tryd.ntmps20, List.size_toArray, List.length_cons, List.length_nil, Nat.reduceAdd, Nat.reduceSub, Array.replicate_succ, Array.replicate_zero, List.push_toArray, List.append_toArray, List.nil_append, List.cons_append]
  go_wp2_with (first | (go_at_call 33; refine (open_yes acc clo A c ps _ (Kd.C_alloc (Kd.C_alloc HR.out _) _) hn HO.out false HI.out).mono ?_; rintro e w2 ⟨B, rfl, hL2⟩) | fail)
  refine ⟨_, results_tmp2 rfl _ _ _, rfl, (Below.trans (below2 w _ _) (hL2.1.mono (below2 w _ _).size)).alloc (Nat.le_trans (below2 w _ _).size hL2.1.size) _⟩
set_option maxRecDepth 100000 in
set_option maxHeartbeats 4000000 in
theorem Owed_no3 (acc clo : Int) (A : Option Addr) (c : Nat) (ps : List S27) (subject : Int) (w : World) (hr : Kd.C k27 w A ps.length ps) (hn : ps.length ≤ 1000000) (ho : okAll acc [] ps = true) (hi : inB acc clo = true) (hm : decide (0 ≤ subject ∧ subject ≤ 999) = false) :
    Calls Tryd.prog 20 #[.agg #[.int .i64 acc, .slice A ps.length c, .int .i64 clo], .int .i64 subject] w fun e w' => e = .returned (.tuple #[.slice none 0 0, .int .i64 240]) ∧ Below w.heap.size w w' := by
  have HPS := Lib.hid (okAll_200 ho)
  have HB1 := Lib.hid (okAll_formed ps [] ho)
  have HR := Lib.hid hr
  have HO := Lib.hid ho
  have HI := Lib.hid hi
  have HM := Lib.hid hm
  clear hm
  clear hr ho hi
  refine calls_of_wp_marks Tryd.func20 rfl ?_
  simp only [Tryd.ntmps20, List.size_toArray, List.length_cons, List.length_nil, Nat.reduceAdd, Nat.reduceSub, Array.replicate_succ, Array.replicate_zero, List.push_toArray, List.append_toArray, List.nil_append, List.cons_append]
  go_wp2_with (first | (go_at_call 33; refine (open_yes acc clo A c ps _ (Kd.C_alloc (Kd.C_alloc HR.out _) _) hn HO.out true HI.out).mono ?_; rintro e w2 ⟨B, rfl, hL2⟩; have hm2 := c_old (o := .cells #[.pointer (some ⟨B, 0, none⟩)] 68) (month_cell w _ _ _ _ _ _ hL2.1)) | (go_at_call 41; (with_reducible refine (isIn_walk' subject 0 999 false HM.out _).mono ?_); rintro e w4 ⟨rfl, hd4⟩) | fail)
  refine ⟨_, results_tmp2 rfl _ _ _, rfl, Below.trans ((Below.trans (below2 w _ _) (hL2.1.mono (below2 w _ _).size)).alloc (Nat.le_trans (below2 w _ _).size hL2.1.size) _) (hd4.below.mono (Nat.le_trans (Nat.le_trans (below2 w _ _).size hL2.1.size) (by simp)))⟩
set_option maxRecDepth 100000 in
set_option maxHeartbeats 4000000 in
theorem Owed_yes (acc clo : Int) (A : Option Addr) (c : Nat) (ps : List S27) (subject : Int) (w : World) (hr : Kd.C k27 w A ps.length ps) (hn : ps.length ≤ 1000000) (ho : okAll acc [] ps = true) (hi : inB acc clo = true) (hm : decide (0 ≤ subject ∧ subject ≤ 999) = true) :
    Calls Tryd.prog 20 #[.agg #[.int .i64 acc, .slice A ps.length c, .int .i64 clo], .int .i64 subject] w fun e w' => ∃ v : Value, e = .returned (.tuple #[v, .int .i64 0]) ∧ Kd.R (Kd.int .i64) 3 w' w.heap.size (fun _ => True) v ((owL subject ps).take acc.toNat) ∧ Below w.heap.size w w' := by
  have HPS := Lib.hid (okAll_200 ho)
  have HB1 := Lib.hid (okAll_formed ps [] ho)
  have HR := Lib.hid hr
  have HO := Lib.hid ho
  have HI := Lib.hid hi
  have HM := Lib.hid hm
  clear hm
  clear hr ho hi
  refine calls_of_wp_marks Tryd.func20 rfl ?_
  simp only [Tryd.ntmps20, List.size_toArray, List.length_cons, List.length_nil, Nat.reduceAdd, Nat.reduceSub, Array.replicate_succ, Array.replicate_zero, List.push_toArray, List.append_toArray, List.nil_append, List.cons_append]
  obtain ⟨Z, hZ⟩ : ∃ Z, List.replicate 16 (0 : Int) = Z := ⟨_, rfl⟩
  have hz := zero_bal
  rw [hZ] at hz
  have hZ0 : sumB [] = Z := hZ
  have HZ := Lib.hid hZ0
  clear hZ hZ0
  go_wp2_with (first | (go_at_call 33; refine (open_yes acc clo A c ps _ (Kd.C_alloc (Kd.C_alloc HR.out _) _) hn HO.out true HI.out).mono ?_; rintro e w2 ⟨B, rfl, hL2⟩; have hm2 := c_old (o := .cells #[.pointer (some ⟨B, 0, none⟩)] 68) (month_cell w _ _ _ _ _ _ hL2.1)) | (go_at_call 41; (with_reducible refine (isIn_walk' subject 0 999 true HM.out _).mono ?_); rintro e w4 ⟨rfl, hd4⟩; have hx4 : w4.cell? ⟨w2.heap.size, 0, none⟩ = some (.pointer (some ⟨B, 0, none⟩)) := keepB hd4.below (c_new _ _ _ _ _ _ rfl rfl); have hx5 := c_old (o := .cells (ints Z).toArray 85) hx4) | fail)
  have HL4 := Lib.hid ((hL2.below ((Below.refl _ _).alloc (Nat.le_refl _) _)).below hd4.below)
  have hX4 : w2.heap.size < w4.heap.size := World.block_lt_of_cell? w4 _ hx4
  generalize w2.heap.size = X at *
  clear hx5
  have hb4 : Below w.heap.size w w4 := Below.trans (below2 w _ _) (HL4.out.1.mono (below2 w _ _).size)
  have hm4 := keepB hd4.below hm2
  have ha4 := acc_cell w _ _ _ _ _ _ HL4.out.1
  have hsz4 : w.heap.size + 1 < w4.heap.size := World.block_lt_of_cell? w4 _ hm4
  obtain ⟨a', k', nn, hnn, hLed, hR', hne⟩ := led_own HL4.out
  have hps0 : ps = [] → a' = none := fun h0 => by
    obtain ⟨_, _, v, l1, _, _, l4⟩ := HL4.out
    have e1 := l1.cell (j := 1) rfl
    have e2 := hLed.cell (j := 1) rfl
    rw [e1] at e2
    injection e2 with e2
    rw [l4 h0] at e2
    injection e2 with e2 _ _
    exact e2.symm
  obtain ⟨hnp, hnk, hC'⟩ := Kd.R_reads' hR'
  have hB4 := hLed.lt
  refine (those_walk B 46 _ _).mono ?_
  rintro e w5 ⟨rfl, rfl⟩
  obtain ⟨O, hO⟩ : ∃ O, w4.heap.size = O := ⟨_, rfl⟩
  have hO1 : (w4.alloc (.cells (ints Z).toArray 85)).heap.size = O + 1 := by simp [hO]
  have hbW : Below w4.heap.size w4 (((w4.alloc (.cells (ints Z).toArray 85)).alloc (.cells #[.pointer (some ⟨B, 0, none⟩)] 68)).alloc (.cells #[.func (.func 46) #[] #[.pointer (some ⟨w.heap.size + 1, 0, none⟩), .pointer (some ⟨X, 0, none⟩)]] 88)) := below3 w4 _ _ _
  have hBO : Blk (((w4.alloc (.cells (ints Z).toArray 85)).alloc (.cells #[.pointer (some ⟨B, 0, none⟩)] 68)).alloc (.cells #[.func (.func 46) #[] #[.pointer (some ⟨w.heap.size + 1, 0, none⟩), .pointer (some ⟨X, 0, none⟩)]] 88)) O 85 (ints (sumB [])) := by
    rw [HZ.out, ← hO]
    exact ((Blk.new w4 85 (ints Z)).alloc _).alloc _
  have cL : (((w4.alloc (.cells (ints Z).toArray 85)).alloc (.cells #[.pointer (some ⟨B, 0, none⟩)] 68)).alloc (.cells #[.func (.func 46) #[] #[.pointer (some ⟨w.heap.size + 1, 0, none⟩), .pointer (some ⟨X, 0, none⟩)]] 88)).cell? ⟨O + 1, 0, none⟩ = some (.pointer (some ⟨B, 0, none⟩)) := c_old (c_new _ _ _ _ _ _ rfl (by simp [hO]))
  have cL1 : (((w4.alloc (.cells (ints Z).toArray 85)).alloc (.cells #[.pointer (some ⟨B, 0, none⟩)] 68)).alloc (.cells #[.func (.func 46) #[] #[.pointer (some ⟨w.heap.size + 1, 0, none⟩), .pointer (some ⟨X, 0, none⟩)]] 88)).cell? ⟨O + 1 + 1, 0, none⟩ = some (.func (.func 46) #[] #[.pointer (some ⟨w.heap.size + 1, 0, none⟩), .pointer (some ⟨X, 0, none⟩)]) := c_new _ _ _ _ _ _ rfl (by simp [hO])
  have cM : (((w4.alloc (.cells (ints Z).toArray 85)).alloc (.cells #[.pointer (some ⟨B, 0, none⟩)] 68)).alloc (.cells #[.func (.func 46) #[] #[.pointer (some ⟨w.heap.size + 1, 0, none⟩), .pointer (some ⟨X, 0, none⟩)]] 88)).cell? ⟨w.heap.size + 1, 0, none⟩ = some (.int .i64 subject) := keepB hbW hm4
  have cX : (((w4.alloc (.cells (ints Z).toArray 85)).alloc (.cells #[.pointer (some ⟨B, 0, none⟩)] 68)).alloc (.cells #[.func (.func 46) #[] #[.pointer (some ⟨w.heap.size + 1, 0, none⟩), .pointer (some ⟨X, 0, none⟩)]] 88)).cell? ⟨X, 0, none⟩ = some (.pointer (some ⟨B, 0, none⟩)) := keepB hbW hx4
  have hLW : Led (((w4.alloc (.cells (ints Z).toArray 85)).alloc (.cells #[.pointer (some ⟨B, 0, none⟩)] 68)).alloc (.cells #[.func (.func 46) #[] #[.pointer (some ⟨w.heap.size + 1, 0, none⟩), .pointer (some ⟨X, 0, none⟩)]] 88)) B acc (.slice a' nn k') clo (backs ps) := Blk.belowS hLed hbW
  have cA : (((w4.alloc (.cells (ints Z).toArray 85)).alloc (.cells #[.pointer (some ⟨B, 0, none⟩)] 68)).alloc (.cells #[.func (.func 46) #[] #[.pointer (some ⟨w.heap.size + 1, 0, none⟩), .pointer (some ⟨X, 0, none⟩)]] 88)).cell? ⟨w.heap.size, 0, none⟩ = some (.int .i64 acc) := keepB hbW ha4
  have cB : (((w4.alloc (.cells (ints Z).toArray 85)).alloc (.cells #[.pointer (some ⟨B, 0, none⟩)] 68)).alloc (.cells #[.func (.func 46) #[] #[.pointer (some ⟨w.heap.size + 1, 0, none⟩), .pointer (some ⟨X, 0, none⟩)]] 88)).cell? ⟨B, 1, none⟩ = some (.slice a' nn k') := keepB hbW (hLed.cell rfl)
  have hC0 : Kd.C k27 (((w4.alloc (.cells (ints Z).toArray 85)).alloc (.cells #[.pointer (some ⟨B, 0, none⟩)] 68)).alloc (.cells #[.func (.func 46) #[] #[.pointer (some ⟨w.heap.size + 1, 0, none⟩), .pointer (some ⟨X, 0, none⟩)]] 88)) a' nn ps := by
    have := Kd.C_below hC' hbW
    rwa [hnn] at this
  have hAw : ∀ ad, a' = some ad → ad.block < w4.heap.size := fun ad e => by
    subst e
    have hp : 0 < ps.length := by
      rcases Nat.eq_zero_or_pos ps.length with h0 | h0
      · have := hps0 (List.eq_nil_of_length_eq_zero h0); cases this
      · exact h0
    obtain ⟨ad', e1, y0, _⟩ := at_T27 hC' 0 (by omega) (by omega)
    injection e1 with e1
    subst e1
    have := World.block_lt_of_cell? w4 _ y0
    simpa [Addr.add] using this
  rw [hO1]
  try rw [hO]
  generalize (((w4.alloc (.cells (ints Z).toArray 85)).alloc (.cells #[.pointer (some ⟨B, 0, none⟩)] 68)).alloc (.cells #[.func (.func 46) #[] #[.pointer (some ⟨w.heap.size + 1, 0, none⟩), .pointer (some ⟨X, 0, none⟩)]] 88)) = W0 at *
  have HH := Lib.hid (And.intro hb4 (And.intro hnn (And.intro hLed (And.intro hnp hC'))))
  have HX := Lib.hid (And.intro hAw (And.intro hbW (And.intro hC0 hO)))
  have HCC := Lib.hid (And.intro cL (And.intro cL1 (And.intro cM (And.intro cA (And.intro cB (And.intro cX hLW))))))
  clear hb4 hnn hLed hnp hC' hAw hbW hC0 hO hO1 cL cL1 cM cA cB cX hLW hx4 hps0 hR' hne hm2 hm4 ha4 hz hL2
  go_wp2
  have hO := HX.out.2.2.2
  have hW0 := HX.out.2.1.size
  have hgiv := those1_gives B (O + 1) 46 #[.pointer (some ⟨w.heap.size + 1, 0, none⟩), .pointer (some ⟨X, 0, none⟩)] a' nn k' ps HH.out.2.1 (by have := HH.out.2.1; omega) (owedF subject (backs ps)) (fun k => k < W0.heap.size ∧ k ≠ O) W0 (fun k hk => hk.1)
    HCC.out.1 HCC.out.2.1 HCC.out.2.2.2.2.1 HX.out.2.2.1 ⟨World.block_lt_of_cell? W0 _ HCC.out.1, by show O + 1 ≠ O; omega⟩ ⟨World.block_lt_of_cell? W0 _ HCC.out.2.1, by show O + 1 + 1 ≠ O; omega⟩ ⟨World.block_lt_of_cell? W0 _ HCC.out.2.2.2.2.1, by show B ≠ O; omega⟩ (fun ad e => by have := HX.out.1 ad e; exact ⟨by show ad.block < W0.heap.size; omega, by show ad.block ≠ O; omega⟩)
    (enters_of Tryd.func46 (by kernel_rfl) rfl)
    (fun i p W hi hW => by
      have hip : i < ps.length := (List.getElem?_eq_some_iff.1 hi).1
      have hi2 : i < 200 := by have := HPS.out; omega
      have hbk := getD_some (l := backs ps) (i := i) (by rw [backs_len]; exact hi2)
      exact ow1_walk (w.heap.size + 1) X B acc clo (.slice a' nn k') (backs ps) subject i hi2 p _ hbk W (cell_of_kept (hW _ ⟨World.block_lt_of_cell? W0 _ HCC.out.2.2.1, by simp only; omega⟩) HCC.out.2.2.1) (cell_of_kept (hW _ ⟨World.block_lt_of_cell? W0 _ HCC.out.2.2.2.2.2.1, by simp only; omega⟩) HCC.out.2.2.2.2.2.1) (HCC.out.2.2.2.2.2.2.move (hW B ⟨World.block_lt_of_cell? W0 _ HCC.out.2.2.2.2.1, by show B ≠ O; omega⟩)))
  have HO := Lib.hid hO
  have HOW := Lib.hid hBO.lt
  clear hO
  refine wp_rangeFunc_box (d := 10) (T := 27) (gf := 60) (lb := #[.pointer (some ⟨O + 1, 0, none⟩), .pointer (some ⟨O + 1 + 1, 0, none⟩)]) rfl (enters_of Tryd.func60 (by kernel_rfl) rfl) (KS := fun k => k < W0.heap.size ∧ k ≠ O) (fun k hk => hk.1) hgiv (Below.refl _ _) (fun _ => rfl)
    (fun p => [.int .i64 p.f0, .int .i64 p.f1, .int .i64 p.f2, .int .i64 p.f3, .int .i64 p.f4, .int .i64 p.f5, .int .i64 p.f6]) ?assign (fun pre V => Blk V O 85 (ints (sumB pre)) ∧ W0.grownBy V (some O)) (OwnFrom.and (own_blk _ hBO.lt) (own_grown _ (Nat.le_refl _))) ⟨hBO, ⟨rfl, rfl, rfl, Nat.le_refl _, fun _ _ _ => rfl⟩⟩ ?body ?done
  case assign =>
    intro l' p V K hK
    have hK' := Lib.hid hK
    clear hK hgiv
    simp only [pvA]
    unfold pv
    gi_wp2
    have h := hK'.out
    simp [boxAct, pvA, pv] at h
    exact h
  case body =>
    intro l' pre p Bp V hI hBlk hBs hpre
    obtain ⟨hbV, hgr⟩ := hI
    have hmem : ∀ q ∈ pre ++ [p], Book1 q := fun q hq => book1_of (acc_of HI.out) (HB1.out q (thoseL_mem _ _ _ q (hpre.subset hq)))
    have hlen : pre.length ≤ 200 := by
      have h1 := hpre.length_le
      have h2 := thoseL_len (owedF subject (backs ps)) ps 0
      have h3 := HPS.out
      simp at h1
      omega
    have hj := add_step O pre p hmem hlen V hbV
    unfold pv at hj
    have HJ := Lib.hid hj
    clear hj
    have c0 := hBlk.cell (j := 0) rfl
    have c1 := hBlk.cell (j := 1) rfl
    have c2 := hBlk.cell (j := 2) rfl
    have c3 := hBlk.cell (j := 3) rfl
    have c4 := hBlk.cell (j := 4) rfl
    have c5 := hBlk.cell (j := 5) rfl
    have c6 := hBlk.cell (j := 6) rfl
    clear hpre hgiv hmem hlen
    simp only [boxAct, pvA]
    simp
    gi_wp2_with fail
    refine ⟨trivial, ?_⟩
    (with_reducible refine CallsIn.mono (CallsIn.inRound l' ((callsIn_wide (n := 2)).2 HJ.out)) ?_)
    rintro e W3 ⟨rfl, hg3, hb3⟩
    gi_wp2
    refine ⟨keeps_grown hg3 HOW.out, ?_, hb3, grown_trans hgr hg3⟩
    intro k' hk'
    exact hg3.block k' (Nat.lt_of_lt_of_le hk'.1 hgr.size) (fun e => hk'.2 (Option.some.inj e))
  case done =>
    rintro D V hD ⟨hbV, hgr⟩ hK
    obtain ⟨k, hk⟩ := Int.eq_ofNat_of_zero_le (show 0 ≤ acc by have := acc_of HI.out; omega)
    have hk16 : k ≤ 16 := by have := acc_of HI.out; omega
    have hst : owL subject ps = sumB (thoseL (owedF subject (backs ps)) 0 ps) := rfl
    have cAV : V.cell? ⟨w.heap.size, 0, none⟩ = some (.int .i64 (k : Int)) := by
      rw [← hk]
      exact cell_of_kept (hgr.block _ (World.block_lt_of_cell? W0 _ HCC.out.2.2.2.1) (fun e => by injection e with e; simp only at e; have := HO.out; omega)) HCC.out.2.2.2.1
    rw [← hst] at hbV
    have hl16 : (owL subject ps).length = 16 := sumB_len _
    have hlz : (ints (owL subject ps)).length = 16 := by rw [ints_len, hl16]
    have HLW := Lib.hid (fun W => list_walk (owL subject ps) hl16 k hk16 W)
    obtain ⟨bs, hbs⟩ : ∃ bs, owL subject ps = bs := ⟨_, rfl⟩
    rw [hbs] at hbV hl16 hlz HLW
    have HBS := Lib.hid hbs
    clear hbs
    have hi63 : (Tryd.prog.info? 85).map (·.size) = some (ints bs).length := by rw [hlz]; kernel_rfl
    have HI63 := Lib.hid hi63
    have HR63 := Lib.hid hbV.range
    clear hst hl16 hlz hi63 hgiv hBO hbV
    have HK := Lib.hid hk
    clear hk
    go_wp2_with (first | (refine load_all (by rfl) 85 (.tmp 8) (by rfl) O (by rfl) (ints bs) HR63.out _ Tryd.underlying85 (by rfl) (by exact HI63.out) ?_) | (go_at_call 45; (with_reducible refine (HLW.out _).mono ?_); rintro e w9 ⟨v, rfl, hR9, hb9⟩) | fail)
    have hDV : D < V.heap.size := (Array.getElem?_eq_some_iff.1 hK).1
    have hD9 : w9.heap[D]? = some (.deferred (some [])) := (hb9.block D hDV).trans hK
    refine ⟨by simp, .inl ⟨_, _, rfl, run_takeDeferred hD9, ?_⟩⟩
    refine ⟨_, results_tmp2 rfl _ _ _, v, rfl, ?_, ?_⟩
    · rw [HBS.out, HK.out, Int.toNat_natCast]
      exact Kd.R_lower (R_putObj hR9 hDV _) (by have := hgr.size; have := HH.out.1.size; omega)
    · have hgs := hgr.size
      have hws := HH.out.1.size
      have b1 : Below w.heap.size w W0 := HH.out.1.trans (HX.out.2.1.mono hws)
      have b2 : Below w.heap.size w V := grown_below hgr b1 (by have := HO.out; omega) (by omega)
      have b3 : Below w.heap.size w w9 := b2.trans (hb9.mono (by omega))
      exact b3.trans (belowK_b (w := w) (Nat.le_refl _) w9 D _ _ (by omega) hD9 rfl rfl)
end Go.Proofs.YtooogaogbffjfaaDoor.Ext
end
section
set_option linter.unusedVariables false
set_option linter.unusedSimpArgs false
namespace Go.Proofs.YtooogaogbffjfaaDoor.Ext
set_option maxRecDepth 100000
open Go.RowKit Go.Proofs.YtooogaogbffjfaaDoorW.PrintWords Go.Proofs.YtooogaogbffjfaaDoorW.PrintLast Go.Proofs.YtooogaogbffjfaaDoorW.PrintMore Go.Proofs.YtooogaogbffjfaaDoor.PK Go.Proofs.YtooogaogbffjfaaDoor.Bk
def errB : Int × List S27 × Int × Int := (0, [], 0, 240)
def postF (acc : Int) (ps : List S27) (clo : Int) (p : S27) : Int × List S27 × Int × Int × Int := if validB acc ps clo && postB acc clo ps p then (acc, ps ++ [p], clo, (ps.length : Int), 0) else (0, [], 0, 0, 240)
def dispF (acc : Int) (ps : List S27) (clo i day amount : Int) : Int × List S27 × Int × Int :=
  if validB acc ps clo && decide (0 ≤ i ∧ i < (ps.length : Int)) && decide (0 ≤ amount ∧ amount ≤ 1000000000000) && postB acc clo ps (backP (rd_T27 ps i) i.toNat day) then
    (if 0 < amount then (if postB acc clo (ps ++ [backP (rd_T27 ps i) i.toNat day]) (newP (rd_T27 ps i) day amount) then (acc, ps ++ [backP (rd_T27 ps i) i.toNat day] ++ [newP (rd_T27 ps i) day amount], clo, 0) else errB) else (acc, ps ++ [backP (rd_T27 ps i) i.toNat day], clo, 0))
  else errB
def closeF (acc : Int) (ps : List S27) (clo month : Int) : Int × List S27 × Int × Int := if validB acc ps clo && decide (month = clo) && decide (0 ≤ clo ∧ clo ≤ 11) then (acc, ps, clo + 1, 0) else errB
def stmtF (acc : Int) (ps : List S27) (clo month : Int) : List Int × Int := if validB acc ps clo && decide (0 ≤ month ∧ month ≤ 11) then ((stL month ps).take acc.toNat, 0) else ([], 240)
def owesF (acc : Int) (ps : List S27) (clo subject : Int) : List Int × Int := if validB acc ps clo && decide (0 ≤ subject ∧ subject ≤ 999) then ((owL subject ps).take acc.toNat, 0) else ([], 240)
def book_Valid.f (a0_0 : Int) (l0_1 : List S27) (a0_2 : Int) : Option Bool := if l0_1.length ≤ 1000000 then some (validB a0_0 l0_1 a0_2) else none
theorem book_Valid.calls (a0_0 : Int) (A0_1 : Option Addr) (c0_1 : Nat) (l0_1 : List S27) (a0_2 : Int) (r : Bool) (w : World) (hr0_1 : Kd.C k27 w A0_1 l0_1.length l0_1) (hc0_1 : l0_1.length ≤ c0_1) (h : book_Valid.f a0_0 l0_1 a0_2 = some r) :
    Calls Tryd.prog 24 #[.agg #[.int .i64 a0_0, .slice A0_1 l0_1.length c0_1, .int .i64 a0_2]] w fun e w' => e = .returned (.bool r) ∧ Below w.heap.size w w' := by
  unfold book_Valid.f at h
  split at h
  · rename_i hn
    obtain rfl := Option.some.inj h
    exact Valid_walk a0_0 a0_2 A0_1 c0_1 l0_1 w hr0_1 hn
  · cases h
def book_Post.f (a0_0 : Int) (l0_1 : List S27) (a0_2 : Int) (a1_0 a1_1 a1_2 a1_3 a1_4 a1_5 a1_6 : Int) : Option (Int × List S27 × Int × Int × Int) := if l0_1.length ≤ 1000000 then some (postF a0_0 l0_1 a0_2 ⟨a1_0, a1_1, a1_2, a1_3, a1_4, a1_5, a1_6⟩) else none
theorem book_Post.calls (a0_0 : Int) (A0_1 : Option Addr) (c0_1 : Nat) (l0_1 : List S27) (a0_2 : Int) (a1_0 a1_1 a1_2 a1_3 a1_4 a1_5 a1_6 : Int) (r1 : Int) (r2 : List S27) (r3 r4 r5 : Int) (w : World) (hr0_1 : Kd.C k27 w A0_1 l0_1.length l0_1) (hc0_1 : l0_1.length ≤ c0_1) (h : book_Post.f a0_0 l0_1 a0_2 a1_0 a1_1 a1_2 a1_3 a1_4 a1_5 a1_6 = some (r1, r2, r3, r4, r5)) :
    Calls Tryd.prog 17 #[.agg #[.int .i64 a0_0, .slice A0_1 l0_1.length c0_1, .int .i64 a0_2], .agg #[.int .i64 a1_0, .int .i64 a1_1, .int .i64 a1_2, .int .i64 a1_3, .int .i64 a1_4, .int .i64 a1_5, .int .i64 a1_6]] w fun e w' => ∃ v1_ : Value, e = .returned (.tuple #[.agg #[.int .i64 r1, v1_, .int .i64 r3], .int .i64 r4, .int .i64 r5]) ∧ Kd.R k27 27 w' w.heap.size (fun _ => True) v1_ r2 ∧ Below w.heap.size w w' := by
  unfold book_Post.f at h
  split at h
  · rename_i hn
    have h := Option.some.inj h
    have hno : postF a0_0 l0_1 a0_2 ⟨a1_0, a1_1, a1_2, a1_3, a1_4, a1_5, a1_6⟩ = (0, [], 0, 0, 240) → Calls Tryd.prog 17 #[.agg #[.int .i64 a0_0, .slice A0_1 l0_1.length c0_1, .int .i64 a0_2], pv ⟨a1_0, a1_1, a1_2, a1_3, a1_4, a1_5, a1_6⟩] w (fun e w' => e = .returned (.tuple #[.agg #[.int .i64 0, .slice none 0 0, .int .i64 0], .int .i64 0, .int .i64 240]) ∧ Below w.heap.size w w') → Calls Tryd.prog 17 #[.agg #[.int .i64 a0_0, .slice A0_1 l0_1.length c0_1, .int .i64 a0_2], .agg #[.int .i64 a1_0, .int .i64 a1_1, .int .i64 a1_2, .int .i64 a1_3, .int .i64 a1_4, .int .i64 a1_5, .int .i64 a1_6]] w fun e w' => ∃ v1_ : Value, e = .returned (.tuple #[.agg #[.int .i64 r1, v1_, .int .i64 r3], .int .i64 r4, .int .i64 r5]) ∧ Kd.R k27 27 w' w.heap.size (fun _ => True) v1_ r2 ∧ Below w.heap.size w w' := by
      intro e hc
      rw [e] at h
      simp only [Prod.mk.injEq] at h
      obtain ⟨rfl, rfl, rfl, rfl, rfl⟩ := h
      exact hc.mono fun e w' ⟨he, hb⟩ => ⟨_, he, Kd.R_nil _ _ _ _ _, hb⟩
    cases ho : okAll a0_0 [] l0_1 with
    | false => exact hno (by unfold postF validB; rw [ho]; rfl) (Post_no1 a0_0 a0_2 A0_1 c0_1 l0_1 _ w hr0_1 hn ho)
    | true =>
      cases hi : inB a0_0 a0_2 with
      | false => exact hno (by unfold postF validB; rw [ho, hi]; rfl) (Post_no2 a0_0 a0_2 A0_1 c0_1 l0_1 _ w hr0_1 hn ho hi)
      | true =>
        cases hp : postB a0_0 a0_2 l0_1 ⟨a1_0, a1_1, a1_2, a1_3, a1_4, a1_5, a1_6⟩ with
        | false => exact hno (by unfold postF validB; rw [ho, hi, hp]; rfl) (Post_no3 a0_0 a0_2 A0_1 c0_1 l0_1 _ w hr0_1 hn ho hi hp)
        | true =>
          unfold postF validB at h
          rw [ho, hi, hp] at h
          simp only [Bool.and_self, if_true, Prod.mk.injEq] at h
          obtain ⟨rfl, rfl, rfl, rfl, rfl⟩ := h
          exact Post_yes a0_0 a0_2 A0_1 c0_1 l0_1 _ w hr0_1 hn ho hi hp
  · cases h
def book_Dispute.f (a0_0 : Int) (l0_1 : List S27) (a0_2 : Int) (a1 a2 a3 : Int) : Option (Int × List S27 × Int × Int) := if l0_1.length ≤ 1000000 then some (dispF a0_0 l0_1 a0_2 a1 a2 a3) else none
theorem book_Dispute.calls (a0_0 : Int) (A0_1 : Option Addr) (c0_1 : Nat) (l0_1 : List S27) (a0_2 : Int) (a1 a2 a3 : Int) (r1 : Int) (r2 : List S27) (r3 r4 : Int) (w : World) (hr0_1 : Kd.C k27 w A0_1 l0_1.length l0_1) (hc0_1 : l0_1.length ≤ c0_1) (h : book_Dispute.f a0_0 l0_1 a0_2 a1 a2 a3 = some (r1, r2, r3, r4)) :
    Calls Tryd.prog 19 #[.agg #[.int .i64 a0_0, .slice A0_1 l0_1.length c0_1, .int .i64 a0_2], .int .i64 a1, .int .i64 a2, .int .i64 a3] w fun e w' => ∃ v1_ : Value, e = .returned (.tuple #[.agg #[.int .i64 r1, v1_, .int .i64 r3], .int .i64 r4]) ∧ Kd.R k27 27 w' w.heap.size (fun _ => True) v1_ r2 ∧ Below w.heap.size w w' := by
  unfold book_Dispute.f at h
  split at h
  · rename_i hn
    have h := Option.some.inj h
    have hno : dispF a0_0 l0_1 a0_2 a1 a2 a3 = errB → Calls Tryd.prog 19 #[.agg #[.int .i64 a0_0, .slice A0_1 l0_1.length c0_1, .int .i64 a0_2], .int .i64 a1, .int .i64 a2, .int .i64 a3] w (fun e w' => e = .returned (.tuple #[.agg #[.int .i64 0, .slice none 0 0, .int .i64 0], .int .i64 240]) ∧ Below w.heap.size w w') → Calls Tryd.prog 19 #[.agg #[.int .i64 a0_0, .slice A0_1 l0_1.length c0_1, .int .i64 a0_2], .int .i64 a1, .int .i64 a2, .int .i64 a3] w fun e w' => ∃ v1_ : Value, e = .returned (.tuple #[.agg #[.int .i64 r1, v1_, .int .i64 r3], .int .i64 r4]) ∧ Kd.R k27 27 w' w.heap.size (fun _ => True) v1_ r2 ∧ Below w.heap.size w w' := by
      intro e hc
      rw [e] at h
      simp only [errB, Prod.mk.injEq] at h
      obtain ⟨rfl, rfl, rfl, rfl⟩ := h
      exact hc.mono fun e w' ⟨he, hb⟩ => ⟨_, he, Kd.R_nil _ _ _ _ _, hb⟩
    cases ho : okAll a0_0 [] l0_1 with
    | false => exact hno (by unfold dispF validB; rw [ho]; rfl) (Dispute_no1 a0_0 a0_2 A0_1 c0_1 _ l0_1 rfl a1 a2 a3 w hr0_1 hn ho)
    | true =>
      cases hi : inB a0_0 a0_2 with
      | false => exact hno (by unfold dispF validB; rw [ho, hi]; rfl) (Dispute_no2 a0_0 a0_2 A0_1 c0_1 _ l0_1 rfl a1 a2 a3 w hr0_1 hn ho hi)
      | true =>
        have hv : validB a0_0 l0_1 a0_2 = true := by unfold validB; rw [ho, hi]; rfl
        by_cases h0 : a1 < 0
        · exact hno (by unfold dispF; rw [hv, decide_eq_false (show ¬ (0 ≤ a1 ∧ a1 < (l0_1.length : Int)) by omega)]; rfl) (Dispute_no3 a0_0 a0_2 A0_1 c0_1 _ l0_1 rfl a1 a2 a3 w hr0_1 hn ho hi (decide_eq_true h0))
        · by_cases h1 : (l0_1.length : Int) ≤ a1
          · exact hno (by unfold dispF; rw [hv, decide_eq_false (show ¬ (0 ≤ a1 ∧ a1 < (l0_1.length : Int)) by omega)]; rfl) (Dispute_no4 a0_0 a0_2 A0_1 c0_1 _ l0_1 rfl a1 a2 a3 w hr0_1 hn ho hi (decide_eq_false h0) (decide_eq_true h1))
          · have hin : decide (0 ≤ a1 ∧ a1 < (l0_1.length : Int)) = true := decide_eq_true (by omega)
            cases hc : decide (0 ≤ a3 ∧ a3 ≤ 1000000000000) with
            | false => exact hno (by unfold dispF; rw [hv, hin, hc]; rfl) (Dispute_no5 a0_0 a0_2 A0_1 c0_1 _ l0_1 rfl a1 a2 a3 w hr0_1 hn ho hi (decide_eq_false h0) (decide_eq_false h1) hc)
            | true =>
              obtain ⟨o, hio⟩ := Int.eq_ofNat_of_zero_le (show 0 ≤ a1 by omega)
              have ho2 : a1.toNat = o := by omega
              have hp : rd_T27 l0_1 (o : Int) = rd_T27 l0_1 a1 := by rw [hio]
              cases hb1 : postB a0_0 a0_2 l0_1 (backP (rd_T27 l0_1 a1) o a2) with
              | false => exact hno (by unfold dispF; rw [hv, hin, hc, ho2, hb1]; rfl) (Dispute_no6 a0_0 a0_2 A0_1 c0_1 _ l0_1 rfl a1 a2 a3 w hr0_1 hn ho hi o hio (decide_eq_false h0) (decide_eq_false h1) hc _ hp hb1)
              | true =>
                have hpos := (of_decide_eq_true hc).1
                by_cases ha : 0 < a3
                · cases hb2 : postB a0_0 a0_2 (l0_1 ++ [backP (rd_T27 l0_1 a1) o a2]) (newP (rd_T27 l0_1 a1) a2 a3) with
                  | false => exact hno (by unfold dispF; rw [hv, hin, hc, ho2, hb1, hb2]; simp [ha]) (Dispute_no7 a0_0 a0_2 A0_1 c0_1 _ l0_1 rfl a1 a2 a3 w hr0_1 hn ho hi o hio (decide_eq_false h0) (decide_eq_false h1) hc _ hp hb1 (decide_eq_true ha) hb2)
                  | true =>
                    unfold dispF at h
                    rw [hv, hin, hc, ho2, hb1, hb2] at h
                    simp only [Bool.and_self, if_true, ha, Prod.mk.injEq] at h
                    obtain ⟨rfl, rfl, rfl, rfl⟩ := h
                    exact Dispute_yes2 a0_0 a0_2 A0_1 c0_1 _ l0_1 rfl a1 a2 a3 w hr0_1 hn ho hi o hio (decide_eq_false h0) (decide_eq_false h1) hc _ hp hb1 (decide_eq_true ha) hb2
                · have ha0 : a3 = 0 := by omega
                  unfold dispF at h
                  rw [hv, hin, hc, ho2, hb1, if_neg ha] at h
                  simp only [Bool.and_self, if_true, Prod.mk.injEq] at h
                  obtain ⟨rfl, rfl, rfl, rfl⟩ := h
                  exact Dispute_yes1 a0_0 a0_2 A0_1 c0_1 _ l0_1 rfl a1 a2 a3 w hr0_1 hn ho hi o hio (decide_eq_false h0) (decide_eq_false h1) hc _ hp ha0 hb1
  · cases h
def book_Close.f (a0_0 : Int) (l0_1 : List S27) (a0_2 : Int) (a1 : Int) : Option (Int × List S27 × Int × Int) := if l0_1.length ≤ 1000000 then some (closeF a0_0 l0_1 a0_2 a1) else none
theorem book_Close.calls (a0_0 : Int) (A0_1 : Option Addr) (c0_1 : Nat) (l0_1 : List S27) (a0_2 : Int) (a1 : Int) (r1 : Int) (r2 : List S27) (r3 r4 : Int) (w : World) (hr0_1 : Kd.C k27 w A0_1 l0_1.length l0_1) (hc0_1 : l0_1.length ≤ c0_1) (h : book_Close.f a0_0 l0_1 a0_2 a1 = some (r1, r2, r3, r4)) :
    Calls Tryd.prog 21 #[.agg #[.int .i64 a0_0, .slice A0_1 l0_1.length c0_1, .int .i64 a0_2], .int .i64 a1] w fun e w' => ∃ v1_ : Value, e = .returned (.tuple #[.agg #[.int .i64 r1, v1_, .int .i64 r3], .int .i64 r4]) ∧ Kd.R k27 27 w' w.heap.size (fun _ => True) v1_ r2 ∧ Below w.heap.size w w' := by
  unfold book_Close.f at h
  split at h
  · rename_i hn
    have h := Option.some.inj h
    have hno : closeF a0_0 l0_1 a0_2 a1 = errB → Calls Tryd.prog 21 #[.agg #[.int .i64 a0_0, .slice A0_1 l0_1.length c0_1, .int .i64 a0_2], .int .i64 a1] w (fun e w' => e = .returned (.tuple #[.agg #[.int .i64 0, .slice none 0 0, .int .i64 0], .int .i64 240]) ∧ Below w.heap.size w w') → Calls Tryd.prog 21 #[.agg #[.int .i64 a0_0, .slice A0_1 l0_1.length c0_1, .int .i64 a0_2], .int .i64 a1] w fun e w' => ∃ v1_ : Value, e = .returned (.tuple #[.agg #[.int .i64 r1, v1_, .int .i64 r3], .int .i64 r4]) ∧ Kd.R k27 27 w' w.heap.size (fun _ => True) v1_ r2 ∧ Below w.heap.size w w' := by
      intro e hc
      rw [e] at h
      simp only [errB, Prod.mk.injEq] at h
      obtain ⟨rfl, rfl, rfl, rfl⟩ := h
      exact hc.mono fun e w' ⟨he, hb⟩ => ⟨_, he, Kd.R_nil _ _ _ _ _, hb⟩
    cases ho : okAll a0_0 [] l0_1 with
    | false => exact hno (by unfold closeF validB; rw [ho]; rfl) (Close_no1 a0_0 a0_2 A0_1 c0_1 l0_1 a1 w hr0_1 hn ho)
    | true =>
      cases hi : inB a0_0 a0_2 with
      | false => exact hno (by unfold closeF validB; rw [ho, hi]; rfl) (Close_no2 a0_0 a0_2 A0_1 c0_1 l0_1 a1 w hr0_1 hn ho hi)
      | true =>
        have hv : validB a0_0 l0_1 a0_2 = true := by unfold validB; rw [ho, hi]; rfl
        by_cases hm : a1 = a0_2
        · cases hc : decide (0 ≤ a0_2 ∧ a0_2 ≤ 11) with
          | false => exact hno (by unfold closeF; rw [hv, hc, Bool.and_false]; rfl) (Close_no4 a0_0 a0_2 A0_1 c0_1 l0_1 a1 w hr0_1 hn ho hi hm.symm hc)
          | true =>
            unfold closeF at h
            rw [hv, hc, decide_eq_true hm] at h
            simp only [Bool.and_self, if_true, Prod.mk.injEq] at h
            obtain ⟨rfl, rfl, rfl, rfl⟩ := h
            subst hm
            exact Close_yes a0_0 a1 A0_1 c0_1 l0_1 w hr0_1 hn ho hi hc
        · exact hno (by unfold closeF; rw [hv, decide_eq_false hm]; rfl) (Close_no3 a0_0 a0_2 A0_1 c0_1 l0_1 a1 w hr0_1 hn ho hi hm)
  · cases h
def book_Statement.f (a0_0 : Int) (l0_1 : List S27) (a0_2 : Int) (a1 : Int) : Option (List Int × Int) := if l0_1.length ≤ 1000000 then some (stmtF a0_0 l0_1 a0_2 a1) else none
theorem book_Statement.calls (a0_0 : Int) (A0_1 : Option Addr) (c0_1 : Nat) (l0_1 : List S27) (a0_2 : Int) (a1 : Int) (r1 : List Int) (r2 : Int) (w : World) (hr0_1 : Kd.C k27 w A0_1 l0_1.length l0_1) (hc0_1 : l0_1.length ≤ c0_1) (h : book_Statement.f a0_0 l0_1 a0_2 a1 = some (r1, r2)) :
    Calls Tryd.prog 18 #[.agg #[.int .i64 a0_0, .slice A0_1 l0_1.length c0_1, .int .i64 a0_2], .int .i64 a1] w fun e w' => ∃ v0_ : Value, e = .returned (.tuple #[v0_, .int .i64 r2]) ∧ Kd.R (Kd.int .i64) 3 w' w.heap.size (fun _ => True) v0_ r1 ∧ Below w.heap.size w w' := by
  unfold book_Statement.f at h
  split at h
  · rename_i hn
    have h := Option.some.inj h
    have hno : stmtF a0_0 l0_1 a0_2 a1 = ([], 240) → Calls Tryd.prog 18 #[.agg #[.int .i64 a0_0, .slice A0_1 l0_1.length c0_1, .int .i64 a0_2], .int .i64 a1] w (fun e w' => e = .returned (.tuple #[.slice none 0 0, .int .i64 240]) ∧ Below w.heap.size w w') → Calls Tryd.prog 18 #[.agg #[.int .i64 a0_0, .slice A0_1 l0_1.length c0_1, .int .i64 a0_2], .int .i64 a1] w fun e w' => ∃ v0_ : Value, e = .returned (.tuple #[v0_, .int .i64 r2]) ∧ Kd.R (Kd.int .i64) 3 w' w.heap.size (fun _ => True) v0_ r1 ∧ Below w.heap.size w w' := by
      intro e hc
      rw [e] at h
      simp only [Prod.mk.injEq] at h
      obtain ⟨rfl, rfl⟩ := h
      exact hc.mono fun e w' ⟨he, hb⟩ => ⟨_, he, Kd.R_nil _ _ _ _ _, hb⟩
    cases ho : okAll a0_0 [] l0_1 with
    | false => exact hno (by unfold stmtF validB; rw [ho]; rfl) (Statement_no1 a0_0 a0_2 A0_1 c0_1 l0_1 a1 w hr0_1 hn ho)
    | true =>
      cases hi : inB a0_0 a0_2 with
      | false => exact hno (by unfold stmtF validB; rw [ho, hi]; rfl) (Statement_no2 a0_0 a0_2 A0_1 c0_1 l0_1 a1 w hr0_1 hn ho hi)
      | true =>
        have hv : validB a0_0 l0_1 a0_2 = true := by unfold validB; rw [ho, hi]; rfl
        cases hm : decide (0 ≤ a1 ∧ a1 ≤ 11) with
        | false => exact hno (by unfold stmtF; rw [hv, hm]; rfl) (Statement_no3 a0_0 a0_2 A0_1 c0_1 l0_1 a1 w hr0_1 hn ho hi hm)
        | true =>
          unfold stmtF at h
          rw [hv, hm] at h
          simp only [Bool.and_self, if_true, Prod.mk.injEq] at h
          obtain ⟨rfl, rfl⟩ := h
          exact Statement_yes a0_0 a0_2 A0_1 c0_1 l0_1 a1 w hr0_1 hn ho hi hm
  · cases h
def book_Owed.f (a0_0 : Int) (l0_1 : List S27) (a0_2 : Int) (a1 : Int) : Option (List Int × Int) := if l0_1.length ≤ 1000000 then some (owesF a0_0 l0_1 a0_2 a1) else none
theorem book_Owed.calls (a0_0 : Int) (A0_1 : Option Addr) (c0_1 : Nat) (l0_1 : List S27) (a0_2 : Int) (a1 : Int) (r1 : List Int) (r2 : Int) (w : World) (hr0_1 : Kd.C k27 w A0_1 l0_1.length l0_1) (hc0_1 : l0_1.length ≤ c0_1) (h : book_Owed.f a0_0 l0_1 a0_2 a1 = some (r1, r2)) :
    Calls Tryd.prog 20 #[.agg #[.int .i64 a0_0, .slice A0_1 l0_1.length c0_1, .int .i64 a0_2], .int .i64 a1] w fun e w' => ∃ v0_ : Value, e = .returned (.tuple #[v0_, .int .i64 r2]) ∧ Kd.R (Kd.int .i64) 3 w' w.heap.size (fun _ => True) v0_ r1 ∧ Below w.heap.size w w' := by
  unfold book_Owed.f at h
  split at h
  · rename_i hn
    have h := Option.some.inj h
    have hno : owesF a0_0 l0_1 a0_2 a1 = ([], 240) → Calls Tryd.prog 20 #[.agg #[.int .i64 a0_0, .slice A0_1 l0_1.length c0_1, .int .i64 a0_2], .int .i64 a1] w (fun e w' => e = .returned (.tuple #[.slice none 0 0, .int .i64 240]) ∧ Below w.heap.size w w') → Calls Tryd.prog 20 #[.agg #[.int .i64 a0_0, .slice A0_1 l0_1.length c0_1, .int .i64 a0_2], .int .i64 a1] w fun e w' => ∃ v0_ : Value, e = .returned (.tuple #[v0_, .int .i64 r2]) ∧ Kd.R (Kd.int .i64) 3 w' w.heap.size (fun _ => True) v0_ r1 ∧ Below w.heap.size w w' := by
      intro e hc
      rw [e] at h
      simp only [Prod.mk.injEq] at h
      obtain ⟨rfl, rfl⟩ := h
      exact hc.mono fun e w' ⟨he, hb⟩ => ⟨_, he, Kd.R_nil _ _ _ _ _, hb⟩
    cases ho : okAll a0_0 [] l0_1 with
    | false => exact hno (by unfold owesF validB; rw [ho]; rfl) (Owed_no1 a0_0 a0_2 A0_1 c0_1 l0_1 a1 w hr0_1 hn ho)
    | true =>
      cases hi : inB a0_0 a0_2 with
      | false => exact hno (by unfold owesF validB; rw [ho, hi]; rfl) (Owed_no2 a0_0 a0_2 A0_1 c0_1 l0_1 a1 w hr0_1 hn ho hi)
      | true =>
        have hv : validB a0_0 l0_1 a0_2 = true := by unfold validB; rw [ho, hi]; rfl
        cases hm : decide (0 ≤ a1 ∧ a1 ≤ 999) with
        | false => exact hno (by unfold owesF; rw [hv, hm]; rfl) (Owed_no3 a0_0 a0_2 A0_1 c0_1 l0_1 a1 w hr0_1 hn ho hi hm)
        | true =>
          unfold owesF at h
          rw [hv, hm] at h
          simp only [Bool.and_self, if_true, Prod.mk.injEq] at h
          obtain ⟨rfl, rfl⟩ := h
          exact Owed_yes a0_0 a0_2 A0_1 c0_1 l0_1 a1 w hr0_1 hn ho hi hm
  · cases h
end Go.Proofs.YtooogaogbffjfaaDoor.Ext
end
section
namespace Go.Proofs.YtooogaogbffjfaaDoor.PB
open Go.Proofs.YtooogaogbffjfaaDoor.Ext
attribute [local go_sem] u32_signed u32_max
open Go.RowKit Go.Proofs.YtooogaogbffjfaaDoorW.PrintWords Go.Proofs.YtooogaogbffjfaaDoorW.PrintLast Go.Proofs.YtooogaogbffjfaaDoorW.PrintMore
attribute [local go_sem] max2_int min2_int max_two min_two max_three min_three max_four min_four   -- for this text's walks alone
set_option linter.unusedVariables false
set_option linter.unusedSimpArgs false
def errW : Option Int → Value
 | none => .nilIface
 | some c => .iface 0 (.int .i64 c)
theorem errW_none : errW none = .nilIface := rfl
theorem errW_some (c : Int) : errW (some c) = .iface 0 (.int .i64 c) := rfl
end Go.Proofs.YtooogaogbffjfaaDoor.PB
end
section
namespace Go.Proofs.YtooogaogbffjfaaDoor.PB
open Go.Proofs.YtooogaogbffjfaaDoor.Ext
attribute [local go_sem] u32_signed u32_max
open Go.RowKit Go.Proofs.YtooogaogbffjfaaDoorW.PrintWords Go.Proofs.YtooogaogbffjfaaDoorW.PrintLast Go.Proofs.YtooogaogbffjfaaDoorW.PrintMore
attribute [local go_sem] max2_int min2_int max_two min_two max_three min_three max_four min_four   -- for this text's walks alone
set_option linter.unusedVariables false
set_option linter.unusedSimpArgs false
def aircheckref24_in.f (a0 : Int) (a1 : Int) (a2 : Int) : Option (Bool) := if a0 ≥ a1 then (some (decide (a0 ≤ a2))) else (some false)
set_option maxHeartbeats 8000000 in
set_option maxRecDepth 100000 in
theorem aircheckref24_in.calls (a0 : Int) (a1 : Int) (a2 : Int) (r : Bool) (w : World) (h : aircheckref24_in.f a0 a1 a2 = some r) :
  Calls Tryd.prog 50 #[.int .i64 a0, .int .i64 a1, .int .i64 a2] w fun e w' => e = .returned (.bool r) ∧ Drawn0 w w' := by
 have H : (if a0 ≥ a1 then (some (decide (a0 ≤ a2))) else (some false)) = some r := h
 clear h
 by_cases c4 : a0 ≥ a1
 ·rw [if_pos c4] at H
  have c4b0 : decide (a1 ≤ a0) = true := decide_eq_true c4
  clear c4
  obtain rfl := Option.some.inj H
  go_enter Tryd.func50, Tryd.ntmps50
  go_wp2
  go_ret
  exact ⟨by first | rfl | (simp; done) | (simp [*]; done), by repeat (first | exact Drawn0.refl _ | apply Drawn0.step)⟩
 ·rw [if_neg c4] at H
  have c4b0 : decide (a1 ≤ a0) = false := decide_eq_false c4
  clear c4
  obtain rfl := Option.some.inj H
  go_enter Tryd.func50, Tryd.ntmps50
  go_wp2
  go_ret
  exact ⟨by first | rfl | (simp; done) | (simp [*]; done), by repeat (first | exact Drawn0.refl _ | apply Drawn0.step)⟩
end Go.Proofs.YtooogaogbffjfaaDoor.PB
end
section
set_option linter.unusedVariables false
set_option linter.unusedSimpArgs false
namespace Go.Proofs.YtooogaogbffjfaaDoor.Ext
set_option maxRecDepth 100000
open Go.RowKit Go.Proofs.YtooogaogbffjfaaDoorW.PrintWords Go.Proofs.YtooogaogbffjfaaDoorW.PrintLast Go.Proofs.YtooogaogbffjfaaDoorW.PrintMore Go.Proofs.YtooogaogbffjfaaDoor.Bk
attribute [local go_sem] Oper.semAt_some
theorem in_same (a b c : Int) (r : Bool) (h : decide (b ≤ a ∧ a ≤ c) = r) (w : World) : Calls Tryd.prog 50 #[.int .i64 a, .int .i64 b, .int .i64 c] w fun e w' => e = .returned (.bool r) ∧ w' = w := by
 subst h
 by_cases h1 : b ≤ a
 ·have d1 : decide (b ≤ a) = true := decide_eq_true h1
  have e : decide (b ≤ a ∧ a ≤ c) = decide (a ≤ c) := by simp [h1]
  rw [e]
  go_enter Tryd.func50, Tryd.ntmps50
  go_wp2
  go_ret
  exact ⟨rfl, rfl⟩
 ·have d1 : decide (b ≤ a) = false := decide_eq_false h1
  have e : decide (b ≤ a ∧ a ≤ c) = false := by simp [h1]
  rw [e]
  go_enter Tryd.func50, Tryd.ntmps50
  go_wp2
  go_ret
  exact ⟨rfl, rfl⟩
set_option maxRecDepth 100000 in
set_option maxHeartbeats 4000000 in
theorem rFormed_walk (n : Int) (p : S27) (w : World) : Calls Tryd.prog 57 #[.agg #[.int .i64 p.f0, .int .i64 p.f1, .int .i64 p.f2, .int .i64 p.f3, .int .i64 p.f4, .int .i64 p.f5, .int .i64 p.f6], .int .i64 n] w fun e w' => e = .returned (.bool (formedB n p)) ∧ Below w.heap.size w w' := by
 rw [formed_parts]
 obtain ⟨m, hm⟩ : ∃ m, wrap64 (n - 1) = m := ⟨_, rfl⟩
 have hw : IntKind.i64.wrap (n - 1) = m := by rw [i64_w]; exact hm
 rw [hm]
 clear hm
 generalize h0 : decide (0 ≤ p.f1 ∧ p.f1 ≤ 359) = b0
 have H0 := Lib.hid h0
 clear h0
 generalize h1 : decide (0 ≤ p.f2 ∧ p.f2 ≤ m) = b1
 have H1 := Lib.hid h1
 clear h1
 generalize h2 : decide (0 ≤ p.f3 ∧ p.f3 ≤ m) = b2
 have H2 := Lib.hid h2
 clear h2
 generalize h3 : decide (1 ≤ p.f4 ∧ p.f4 ≤ 1000000000000) = b3
 have H3 := Lib.hid h3
 clear h3
 generalize h4 : decide (0 ≤ p.f5 ∧ p.f5 ≤ 999) = b4
 have H4 := Lib.hid h4
 clear h4
 obtain ⟨b5, h5⟩ : ∃ b, decide (0 ≤ p.f6 ∧ p.f6 ≤ 199) = b := ⟨_, rfl⟩
 have H5 := Lib.hid h5
 have ht3 : p.f0 ≠ 1 → p.f0 ≠ 2 → tailB p = (p.f0 == 3 && b5) := fun e1 e2 => by
  rw [← h5]
  unfold tailB
  by_cases e3 : p.f0 = 3 <;> simp [e1, e2, e3]
 have ht1 : p.f0 = 1 ∨ p.f0 = 2 → tailB p = (p.f6 == -1) := fun e => by
  unfold tailB
  rcases e with e | e <;> simp [e] <;> rfl
 have HT3 := Lib.hid ht3
 have HT1 := Lib.hid ht1
 clear h5 ht3 ht1
 have z0 : (w.alloc (.cells #[.int .i64 p.f0, .int .i64 p.f1, .int .i64 p.f2, .int .i64 p.f3, .int .i64 p.f4, .int .i64 p.f5, .int .i64 p.f6] 27)).cell? ⟨w.heap.size, 0, none⟩ = some (.int .i64 p.f0) := c_new1 _ _ _ _ _ rfl
 have z1 : (w.alloc (.cells #[.int .i64 p.f0, .int .i64 p.f1, .int .i64 p.f2, .int .i64 p.f3, .int .i64 p.f4, .int .i64 p.f5, .int .i64 p.f6] 27)).cell? ⟨w.heap.size, 1, none⟩ = some (.int .i64 p.f1) := c_new1 _ _ _ _ _ rfl
 have z2 : (w.alloc (.cells #[.int .i64 p.f0, .int .i64 p.f1, .int .i64 p.f2, .int .i64 p.f3, .int .i64 p.f4, .int .i64 p.f5, .int .i64 p.f6] 27)).cell? ⟨w.heap.size, 2, none⟩ = some (.int .i64 p.f2) := c_new1 _ _ _ _ _ rfl
 have z3 : (w.alloc (.cells #[.int .i64 p.f0, .int .i64 p.f1, .int .i64 p.f2, .int .i64 p.f3, .int .i64 p.f4, .int .i64 p.f5, .int .i64 p.f6] 27)).cell? ⟨w.heap.size, 3, none⟩ = some (.int .i64 p.f3) := c_new1 _ _ _ _ _ rfl
 have z4 : (w.alloc (.cells #[.int .i64 p.f0, .int .i64 p.f1, .int .i64 p.f2, .int .i64 p.f3, .int .i64 p.f4, .int .i64 p.f5, .int .i64 p.f6] 27)).cell? ⟨w.heap.size, 4, none⟩ = some (.int .i64 p.f4) := c_new1 _ _ _ _ _ rfl
 have z5 : (w.alloc (.cells #[.int .i64 p.f0, .int .i64 p.f1, .int .i64 p.f2, .int .i64 p.f3, .int .i64 p.f4, .int .i64 p.f5, .int .i64 p.f6] 27)).cell? ⟨w.heap.size, 5, none⟩ = some (.int .i64 p.f5) := c_new1 _ _ _ _ _ rfl
 have z6 : (w.alloc (.cells #[.int .i64 p.f0, .int .i64 p.f1, .int .i64 p.f2, .int .i64 p.f3, .int .i64 p.f4, .int .i64 p.f5, .int .i64 p.f6] 27)).cell? ⟨w.heap.size, 6, none⟩ = some (.int .i64 p.f6) := c_new1 _ _ _ _ _ rfl
 have HB := Lib.hid (show Below w.heap.size w (w.alloc (.cells #[.int .i64 p.f0, .int .i64 p.f1, .int .i64 p.f2, .int .i64 p.f3, .int .i64 p.f4, .int .i64 p.f5, .int .i64 p.f6] 27)) from (Below.refl _ _).alloc (Nat.le_refl _) _)
 go_enter Tryd.func57, Tryd.ntmps57
 go_upto_region 1 with (fail)
 generalize w.alloc (.cells #[.int .i64 p.f0, .int .i64 p.f1, .int .i64 p.f2, .int .i64 p.f3, .int .i64 p.f4, .int .i64 p.f5, .int .i64 p.f6] 27) = w1 at *
 cases b0
 ·go_wp2_with (first | (go_at_call 50; (with_reducible refine (in_same _ _ _ _ (by first | exact H0.out | exact H1.out | exact H2.out | exact H3.out | exact H4.out | exact H5.out) _).mono ?_); rintro e w5 ⟨rfl, hw5⟩; obtain rfl := hw5.symm; clear hw5) | fail)
  go_ret
  exact ⟨by first | rfl | (simp; done), HB.out⟩
 ·skip
  cases b1
  ·go_wp2_with (first | (go_at_call 50; (with_reducible refine (in_same _ _ _ _ (by first | exact H0.out | exact H1.out | exact H2.out | exact H3.out | exact H4.out | exact H5.out) _).mono ?_); rintro e w5 ⟨rfl, hw5⟩; obtain rfl := hw5.symm; clear hw5) | fail)
   go_ret
   exact ⟨by first | rfl | (simp; done), HB.out⟩
  ·skip
   cases b2
   ·go_wp2_with (first | (go_at_call 50; (with_reducible refine (in_same _ _ _ _ (by first | exact H0.out | exact H1.out | exact H2.out | exact H3.out | exact H4.out | exact H5.out) _).mono ?_); rintro e w5 ⟨rfl, hw5⟩; obtain rfl := hw5.symm; clear hw5) | fail)
    go_ret
    exact ⟨by first | rfl | (simp; done), HB.out⟩
   ·skip
    cases e4 : (p.f2 == p.f3)
    ·skip
     cases b3
     ·go_wp2_with (first | (go_at_call 50; (with_reducible refine (in_same _ _ _ _ (by first | exact H0.out | exact H1.out | exact H2.out | exact H3.out | exact H4.out | exact H5.out) _).mono ?_); rintro e w5 ⟨rfl, hw5⟩; obtain rfl := hw5.symm; clear hw5) | fail)
      go_ret
      exact ⟨by first | rfl | (simp; done), HB.out⟩
     ·skip
      cases b4
      ·go_wp2_with (first | (go_at_call 50; (with_reducible refine (in_same _ _ _ _ (by first | exact H0.out | exact H1.out | exact H2.out | exact H3.out | exact H4.out | exact H5.out) _).mono ?_); rintro e w5 ⟨rfl, hw5⟩; obtain rfl := hw5.symm; clear hw5) | fail)
       go_ret
       exact ⟨by first | rfl | (simp; done), HB.out⟩
      ·skip
       by_cases k1 : p.f0 = 1
       ·have e1 : (p.f0 == 1) = true := beq_iff_eq.2 k1
        have HT := Lib.hid (HT1.out (Or.inl k1))
        clear k1
        go_wp2_with (first | (go_at_call 50; (with_reducible refine (in_same _ _ _ _ (by first | exact H0.out | exact H1.out | exact H2.out | exact H3.out | exact H4.out | exact H5.out) _).mono ?_); rintro e w5 ⟨rfl, hw5⟩; obtain rfl := hw5.symm; clear hw5) | fail)
        go_ret
        exact ⟨by first | rfl | (rw [HT.out, e4]; rfl) | (rw [HT.out, e4, e3]; rfl) | (simp; done), HB.out⟩
       ·have e1 : (p.f0 == 1) = false := beq_eq_false_iff_ne.2 k1
        by_cases k2 : p.f0 = 2
        ·have e2 : (p.f0 == 2) = true := beq_iff_eq.2 k2
         have HT := Lib.hid (HT1.out (Or.inr k2))
         clear k1 k2
         go_wp2_with (first | (go_at_call 50; (with_reducible refine (in_same _ _ _ _ (by first | exact H0.out | exact H1.out | exact H2.out | exact H3.out | exact H4.out | exact H5.out) _).mono ?_); rintro e w5 ⟨rfl, hw5⟩; obtain rfl := hw5.symm; clear hw5) | fail)
         go_ret
         exact ⟨by first | rfl | (rw [HT.out, e4]; rfl) | (rw [HT.out, e4, e3]; rfl) | (simp; done), HB.out⟩
        ·have e2 : (p.f0 == 2) = false := beq_eq_false_iff_ne.2 k2
         have HT := Lib.hid (HT3.out k1 k2)
         clear k1 k2
         cases e3 : (p.f0 == 3)
         ·go_wp2_with (first | (go_at_call 50; (with_reducible refine (in_same _ _ _ _ (by first | exact H0.out | exact H1.out | exact H2.out | exact H3.out | exact H4.out | exact H5.out) _).mono ?_); rintro e w5 ⟨rfl, hw5⟩; obtain rfl := hw5.symm; clear hw5) | fail)
          go_ret
          exact ⟨by first | rfl | (rw [HT.out, e4]; rfl) | (rw [HT.out, e4, e3]; rfl) | (simp; done), HB.out⟩
         ·go_wp2_with (first | (go_at_call 50; (with_reducible refine (in_same _ _ _ _ (by first | exact H0.out | exact H1.out | exact H2.out | exact H3.out | exact H4.out | exact H5.out) _).mono ?_); rintro e w5 ⟨rfl, hw5⟩; obtain rfl := hw5.symm; clear hw5) | fail)
          go_ret
          exact ⟨by first | rfl | (rw [HT.out, e4]; rfl) | (rw [HT.out, e4, e3]; rfl) | (simp; done), HB.out⟩
    ·go_wp2_with (first | (go_at_call 50; (with_reducible refine (in_same _ _ _ _ (by first | exact H0.out | exact H1.out | exact H2.out | exact H3.out | exact H4.out | exact H5.out) _).mono ?_); rintro e w5 ⟨rfl, hw5⟩; obtain rfl := hw5.symm; clear hw5) | fail)
     go_ret
     exact ⟨by first | rfl | (rw [e4]; rfl) | (simp; done), HB.out⟩
end Go.Proofs.YtooogaogbffjfaaDoor.Ext
namespace Go.Proofs.YtooogaogbffjfaaDoor.PB
open Go.RowKit Go.Proofs.YtooogaogbffjfaaDoorW.PrintWords Go.Proofs.YtooogaogbffjfaaDoorW.PrintLast Go.Proofs.YtooogaogbffjfaaDoorW.PrintMore Go.Proofs.YtooogaogbffjfaaDoor.Ext
open Go.Proofs.YtooogaogbffjfaaDoor.Bk
def aircheckref24_formed.f (k : Nat) (a0_0 a0_1 a0_2 a0_3 a0_4 a0_5 a0_6 a1 : Int) : Option Bool := some (formedB a1 ⟨a0_0, a0_1, a0_2, a0_3, a0_4, a0_5, a0_6⟩)
theorem aircheckref24_formed.calls (k : Nat) (a0_0 a0_1 a0_2 a0_3 a0_4 a0_5 a0_6 a1 : Int) (r : Bool) (w : World) (h : aircheckref24_formed.f k a0_0 a0_1 a0_2 a0_3 a0_4 a0_5 a0_6 a1 = some r) :
  Calls Tryd.prog 57 #[.agg #[.int .i64 a0_0, .int .i64 a0_1, .int .i64 a0_2, .int .i64 a0_3, .int .i64 a0_4, .int .i64 a0_5, .int .i64 a0_6], .int .i64 a1] w fun e w' => e = .returned (.bool r) ∧ Below w.heap.size w w' := by
 obtain rfl := Option.some.inj h
 exact rFormed_walk a1 ⟨a0_0, a0_1, a0_2, a0_3, a0_4, a0_5, a0_6⟩ w
end Go.Proofs.YtooogaogbffjfaaDoor.PB
end
section
set_option linter.unusedVariables false
set_option linter.unusedSimpArgs false
namespace Go.Proofs.YtooogaogbffjfaaDoor.Bk
set_option maxRecDepth 100000
open Go.RowKit Go.Proofs.YtooogaogbffjfaaDoorW.PrintWords Go.Proofs.YtooogaogbffjfaaDoorW.PrintLast Go.Proofs.YtooogaogbffjfaaDoorW.PrintMore Go.Proofs.YtooogaogbffjfaaDoor.Ext Go.Proofs.YtooogaogbffjfaaDoor.PB
theorem in_is (a b c : Int) : aircheckref24_in.f a b c = some (decide (b ≤ a ∧ a ≤ c)) := by
  unfold aircheckref24_in.f
  by_cases h1 : b ≤ a
  · by_cases h2 : a ≤ c
    · simp [h1, h2]
    · simp [h1, h2]
  · simp [h1]
theorem refFormed_is (k : Nat) (n : Int) (p : S27) : aircheckref24_formed.f (k + 1) p.f0 p.f1 p.f2 p.f3 p.f4 p.f5 p.f6 n = some (formedB n p) := rfl
theorem rd_take (ps : List S27) (i j : Nat) (h : j < i) : rd_T27 (ps.take i) (j : Int) = rd_T27 ps (j : Int) := by
  unfold rd_T27
  rw [Int.toNat_natCast, List.getD_eq_getElem?_getD, List.getD_eq_getElem?_getD, List.getElem?_take_of_lt h]
theorem dayOf_take (ps : List S27) (i : Nat) (h : i < ps.length) (h0 : 0 < i) : dayOf (ps.take i) = (rd_T27 ps ((i - 1 : Nat) : Int)).f1 := by
  rw [dayOf_last (ps.take i) (i - 1) (by rw [List.length_take]; omega), rd_take _ _ _ (by omega)]
theorem take_snoc (ps : List S27) (i : Nat) (h : i < ps.length) : ps.take (i + 1) = ps.take i ++ [rd_T27 ps (i : Int)] := by
  unfold rd_T27
  rw [Int.toNat_natCast, List.getD_eq_getElem?_getD, List.take_add_one, List.getElem?_eq_getElem h]
  rfl
theorem w1 {i n : Nat} (h : i < n) (hn : n ≤ 1000000) : wrap64 ((i : Int) + 1) = ((i + 1 : Nat) : Int) := by unfold wrap64; omega
def dayR (ps : List S27) (i : Nat) (p : S27) : Bool := if i = 0 then false else decide (p.f1 < (rd_T27 ps ((i - 1 : Nat) : Int)).f1)
theorem next_is (acc : Int) (ps : List S27) (i : Nat) (p : S27) (hn : ps.length ≤ 200) (hi : i < ps.length) :
    nextB acc (ps.take i) p = (formedB acc p && (!(dayR ps i p) && (decide (p.f0 ≠ 3) || (decide (p.f6 < (i : Int)) && (!((backs (ps.take i)).getD p.f6.toNat false) && isBackB p ((ps.take i).getD p.f6.toNat z27)))))) := by
  have hlen : (ps.take i).length = i := by rw [List.length_take]; omega
  have hday : decide (ps.take i = [] ∨ dayOf (ps.take i) ≤ p.f1) = !(dayR ps i p) := by
    unfold dayR
    by_cases h0 : i = 0
    · subst h0; simp
    · rw [if_neg h0, dayOf_take ps i hi (by omega)]
      have hne : ¬ ps.take i = [] := fun e => by rw [e] at hlen; simp at hlen; omega
      by_cases hc : p.f1 < (rd_T27 ps ((i - 1 : Nat) : Int)).f1
      · rw [decide_eq_true hc, decide_eq_false]
        · rfl
        · exact fun h => h.elim hne (fun h => by omega)
      · rw [decide_eq_false hc, decide_eq_true (Or.inr (by omega))]; rfl
  unfold nextB
  rw [hlen, hday, decide_eq_true (show i < 200 by omega), Bool.true_and]
theorem getD_take (ps : List S27) (i : Nat) (x : Int) (h0 : 0 ≤ x) (h : x < (i : Int)) : (ps.take i).getD x.toNat z27 = rd_T27 ps x := by
  obtain ⟨o, rfl⟩ := Int.eq_ofNat_of_zero_le h0
  have := rd_take ps i o (by omega)
  unfold rd_T27 at this
  exact this
end Go.Proofs.YtooogaogbffjfaaDoor.Bk
end
