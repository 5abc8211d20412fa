import Derived.Test.YtlmlimihgohchaaDoorYVerify
/-
  Texts of this claim, one behind the other: what they prove stands above each.
-/
section
/-
  The walk of VerifyExtension.
-/
namespace Go.Proofs.YtlmlimihgohchaaDoor.Ext
open Go.RowKit Go.Shelf Go.Proofs.YtlmlimihgohchaaDoorW.PrintWords Go.Proofs.YtlmlimihgohchaaDoorW.PrintLast Go.Proofs.YtlmlimihgohchaaDoorW.PrintMore
set_option linter.unusedVariables false
set_option linter.unusedSimpArgs false
attribute [local go_sem] Oper.semAt_some
attribute [local go_sem ↓] Go.wp_at_zero Go.wp_at_succ
def extB (old : ByteArray) (m : Int) (root : ByteArray) (n : Int) (l : List ByteArray) : Bool :=
  decide (0 ≤ m ∧ m ≤ n) && (l.all dig32 && (dig32 old && (dig32 root && (if m = 0 then decide (l = [] ∧ old = dE) else decide (Tree.both dN old m.toNat n.toNat l.reverse true = some (old, root))))))
/-- a step of the first value -/
def joinF (x : ByteArray × Bool) (v : ByteArray) : ByteArray := if x.2 then joinS x v else v
/-- only two blocks of what there was have changed -/
structure Two (O1 O2 : Nat) (w w' : World) : Prop where
  os : w'.os = w.os
  tape : w'.tape = w.tape
  output : w'.output = w.output
  size : w.heap.size ≤ w'.heap.size
  block : ∀ k, k < w.heap.size → k ≠ O1 → k ≠ O2 → w'.heap[k]? = w.heap[k]?
theorem Two.refl (O1 O2 : Nat) (w : World) : Two O1 O2 w w := ⟨rfl, rfl, rfl, Nat.le_refl _, fun _ _ _ _ => rfl⟩
theorem Two.trans {O1 O2 : Nat} {a b c : World} (h : Two O1 O2 a b) (k : Two O1 O2 b c) : Two O1 O2 a c := ⟨k.os.trans h.os, k.tape.trans h.tape, k.output.trans h.output, Nat.le_trans h.size k.size, fun i hi h1 h2 => (k.block i (Nat.lt_of_lt_of_le hi h.size) h1 h2).trans (h.block i hi h1 h2)⟩
theorem Two.below {O1 O2 : Nat} {w w' : World} (h : Below w.heap.size w w') : Two O1 O2 w w' := ⟨h.os, h.tape, h.output, h.size, fun k hk _ _ => h.block k hk⟩
theorem Two.one {O1 O2 : Nat} {w w' : World} (h : w.grownBy w' (some O1)) : Two O1 O2 w w' := ⟨h.os, h.tape, h.output, h.size, fun k hk h1 _ => h.block k hk (fun e => by injection e with e; exact h1 e)⟩
theorem Two.two {O1 O2 : Nat} {w w' : World} (h : w.grownBy w' (some O2)) : Two O1 O2 w w' := ⟨h.os, h.tape, h.output, h.size, fun k hk _ h2 => h.block k hk (fun e => by injection e with e; exact h2 e)⟩
theorem Two.toBelow {O1 O2 : Nat} {w w' a : World} (h : Two O1 O2 w w') {B : Nat} (hb : Below B a w) (h1 : B ≤ O1) (h2 : B ≤ O2) (hs : B ≤ w.heap.size) : Below B a w' := ⟨h.os.trans hb.os, h.tape.trans hb.tape, h.output.trans hb.output, Nat.le_trans hb.size h.size, fun k hk => (h.block k (by omega) (by omega) (by omega)).trans (hb.block k hk)⟩
theorem own_two {β : Type} {B O1 O2 : Nat} {w : World} (hB : w.heap.size ≤ B) : OwnFrom B (fun (_ : β) W => Two O1 O2 w W) := fun s W W' row hs hgr hr =>
  ⟨hgr.os.trans hs.os, hgr.tape.trans hs.tape, hgr.output.trans hs.output, Nat.le_trans hs.size hgr.size, fun k hk h1 h2 => (hgr.block k (Nat.lt_of_lt_of_le hk hs.size) (fun e => by have := (hr k e.symm).1; omega)).trans (hs.block k hk h1 h2)⟩
theorem keeps_two {W W' : World} {B O1 O2 : Nat} (h : Two O1 O2 W W') (h1 : O1 < B) (h2 : O2 < B) : KeepsFrom B W W' := ⟨h.size, fun k o hk h0 _ => (h.block k (Array.getElem?_eq_some_iff.1 h0).1 (by omega) (by omega)).trans h0⟩
theorem side_gives2 {w : World} {N n : Nat} {v : Value} {W : List (ByteArray × Bool)} (hn : W.length = n) (hn2 : n < 1000000000) (h : w.ownsRow N 58 2 v n (sideCells W)) (W0 : World) (B : Nat) (hB : Blk W0 B 54 [v]) (hb : Below w.heap.size w W0) {KS : Nat → Prop} (hK : ∀ k, k = B ∨ k < w.heap.size → KS k) :
    GivesAllK Fence.wide 4 Tryd.prog 63 #[.pointer (some ⟨B, 0, none⟩)] pairS (backs (⟨#[]⟩, false) W) KS W0 := by
  have hBlt := hB.lt
  rcases h.2 with ⟨rfl, h0⟩ | ⟨g, cap, cur, rfl, hg, hh, hnc, _, _, ht⟩
  · have hW : W = [] := List.eq_nil_of_length_eq_zero (by rw [hn]; exact h0)
    subst hW
    exact (backS0_gives B 0 none W0 hB).mono (fun k hk => hK k (Or.inl hk))
  · have hC : Blk W0 g 58 cur.toList := by
      have h1 : Blk w g 58 cur.toList := by simpa [Blk] using hh
      exact h1.belowS hb
    have hgw : g < w.heap.size := (Array.getElem?_eq_some_iff.1 hh).1
    refine (backS1_gives B g n cap 58 W hn hn2 cur.toList ?_ W0 hB hC).mono (fun k hk => ?_)
    · intro j x hj
      have hjn : j < n := by rw [← hn]; exact (List.getElem?_eq_some_iff.1 hj).1
      have := sideCells_get W j x hj
      rw [← ht, List.getElem?_take, List.getElem?_take, if_pos (by omega), if_pos (by omega)] at this
      exact this
    · rcases hk with rfl | rfl
      · exact hK _ (Or.inl rfl)
      · exact hK _ (Or.inr hgw)
def valF (o : ByteArray) (pre : List (Nat × (ByteArray × Bool))) : ByteArray := (pre.map (·.2)).foldl (fun o x => joinF x o) o
theorem valF_snoc (o : ByteArray) (pre : List (Nat × (ByteArray × Bool))) (p : Nat × (ByteArray × Bool)) : valF o (pre ++ [p]) = joinF p.2 (valF o pre) := by simp [valF]
theorem joinF_size (x : ByteArray × Bool) (o : ByteArray) (ho : o.size = 32) : (joinF x o).size = 32 := by unfold joinF; split; exact joinS_size _ _; exact ho
theorem valF_size (o : ByteArray) (ho : o.size = 32) (pre : List (Nat × (ByteArray × Bool))) : (valF o pre).size = 32 := by
  unfold valF
  have : ∀ (l : List (ByteArray × Bool)) (o : ByteArray), o.size = 32 → (l.foldl (fun o x => joinF x o) o).size = 32 := by
    intro l
    induction l with
    | nil => intro o h; exact h
    | cons x l ih => intro o h; exact ih _ (joinF_size x o h)
  exact this _ o ho
theorem valF_all (o : ByteArray) (W : List (ByteArray × Bool)) (d : ByteArray × Bool) : valF o (backs d W) = W.foldr joinF o := by
  unfold valF
  rw [backs_snd, List.foldl_reverse]
set_option maxRecDepth 100000 in
set_option maxHeartbeats 2000000 in
theorem VerifyExtension_walk (old : ByteArray) (m : Int) (root : ByteArray) (n : Int) (A : Option Addr) (c : Nat) (l : List ByteArray) (w : World) (hG : GL w) (hr : Kd.C Kd.string w A l.length l) (hc : l.length ≤ c) (hln : l.length ≤ 1000000) (hls : ∀ x ∈ l, x.size ≤ 9223372036854775807)
    (hn0 : -9223372036854775808 ≤ n) (hn1 : n ≤ 9223372036854775807) (hm0 : -9223372036854775808 ≤ m) (hm1 : m ≤ 9223372036854775807) (ho1 : old.size ≤ 9223372036854775807) (hr1 : root.size ≤ 9223372036854775807) :
    Calls Tryd.prog 23 #[.string old, .int .i64 m, .string root, .int .i64 n, .slice A l.length c] w fun e w' => e = .returned (.bool (extB old m root n l)) ∧ Below w.heap.size w w' := by
  have hall := fun W hW => all_walk A c l W hW hc hln hls
  have HALL := Lib.hid hall
  have HR := Lib.hid hr
  have HG := Lib.hid hG
  have HS := Lib.hid hls
  clear hall hr hG hls
  by_cases hin : 0 ≤ m ∧ m ≤ n
  · have d1 : decide (m < 0) = false := decide_eq_false (by omega)
    have d2 : decide (n < m) = false := decide_eq_false (by omega)
    by_cases h32 : l.all dig32 = true
    · by_cases ho : old.size = 32
      · have eo : ((old.size : Int) == 32) = true := by simp [ho]
        by_cases hrt : root.size = 32
        · have er : ((root.size : Int) == 32) = true := by simp [hrt]
          obtain ⟨M0, rfl⟩ := Int.eq_ofNat_of_zero_le hin.1
          obtain ⟨N0, rfl⟩ := Int.eq_ofNat_of_zero_le (show 0 ≤ n by omega)
          have hv : extB old (M0 : Int) root (N0 : Int) l = (if M0 = 0 then decide (l = [] ∧ old = dE) else decide (Tree.both dN old M0 N0 l.reverse true = some (old, root))) := by
            unfold extB
            simp only [hin, h32, dig32, ho, hrt]
            simp
          have HV := Lib.hid (And.intro hv h32)
          clear hv
          have hMN : M0 ≤ N0 := by omega
          have d2' : decide (N0 < M0) = false := decide_eq_false (by omega)
          have hds : ∀ x ∈ l, x.size = 32 := fun x hx => by have := List.all_eq_true.1 h32 x hx; simpa [dig32] using this
          have HDS := Lib.hid (And.intro hds ho)
          clear hds h32 hin ho hrt
          obtain ⟨L, hL⟩ : ∃ L, l.length = L := ⟨_, rfl⟩
          have hlr := HR.out
          rw [hL] at hlr hc hln ⊢
          have HLR := Lib.hid (And.intro hL hlr)
          clear hL hlr
          obtain ⟨i0, hi, hz0, hz1, hz2⟩ := info_parts info58
          by_cases hM : M0 = 0
          · subst hM
            have hsz0 : (⟨#[]⟩ : ByteArray).size ≤ 140737488350000 := by decide
            by_cases hL0 : L = 0
            · have dl : ((L : Int) == 0) = true := by simp [hL0]
              have HL0 := Lib.hid hL0
              clear hL0
              refine calls_of_wp_marks Tryd.func23 rfl ?_
              simp only [Tryd.ntmps23, List.size_toArray, List.length_cons, List.length_nil, Nat.reduceAdd, Nat.reduceSub, Array.replicate_succ, Array.replicate_zero, List.push_toArray, List.append_toArray, List.nil_append, List.cons_append]
              go_wp2_with (first | (go_at_call 45; have hq := HALL.out _ HR.out; rw [HLR.out.1, HV.out.2] at hq; refine hq.mono ?_; rintro e w' ⟨rfl, hw'⟩; obtain rfl := hw'.symm) | (go_at_call 51; refine (isDigest_walk old ho1 _).mono ?_; rintro e w' ⟨rfl, hw'⟩; obtain rfl := hw'.symm) | (go_at_call 51; refine (isDigest_walk root hr1 _).mono ?_; rintro e w' ⟨rfl, hw'⟩; obtain rfl := hw'.symm) | (go_at_call 30; refine (Sum_walk ⟨#[]⟩ hsz0 _ HG.out).mono ?_; rintro e w2 ⟨rfl, hb2⟩) | fail)
              refine ⟨_, results_tmp rfl _ _ _, ?_, hb2⟩
              have hl0 : l = [] := List.eq_nil_of_length_eq_zero (by rw [HLR.out.1, HL0.out])
              rw [HV.out.1, if_pos trivial]
              show Ending.returned (.bool (old.toList == (str (Sha.sha (nat ⟨#[]⟩))).toList)) = _
              rw [str_eq]
              simp only [hl0, true_and]
              rfl
            · have dl : ((L : Int) == 0) = false := by simp; omega
              have HL0 := Lib.hid hL0
              clear hL0
              refine calls_of_wp_marks Tryd.func23 rfl ?_
              simp only [Tryd.ntmps23, List.size_toArray, List.length_cons, List.length_nil, Nat.reduceAdd, Nat.reduceSub, Array.replicate_succ, Array.replicate_zero, List.push_toArray, List.append_toArray, List.nil_append, List.cons_append]
              go_wp2_with (first | (go_at_call 45; have hq := HALL.out _ HR.out; rw [HLR.out.1, HV.out.2] at hq; refine hq.mono ?_; rintro e w' ⟨rfl, hw'⟩; obtain rfl := hw'.symm) | (go_at_call 51; refine (isDigest_walk old ho1 _).mono ?_; rintro e w' ⟨rfl, hw'⟩; obtain rfl := hw'.symm) | (go_at_call 51; refine (isDigest_walk root hr1 _).mono ?_; rintro e w' ⟨rfl, hw'⟩; obtain rfl := hw'.symm) | fail)
              refine ⟨_, results_tmp rfl _ _ _, ?_, Below.refl _ _⟩
              have hl0 : ¬ l = [] := fun h => HL0.out (by rw [← HLR.out.1, h]; rfl)
              rw [HV.out.1, if_pos trivial]
              have hdf : decide (l = [] ∧ old = dE) = false := decide_eq_false (fun h => hl0 h.1)
              rw [hdf]
              rfl
          · have dM : ((M0 : Int) == 0) = false := by simp; omega
            by_cases hE : M0 = N0
            · subst hE
              have dE' : ((M0 : Int) == (M0 : Int)) = true := by simp
              have hbo := Tree.both_whole (nd := dN) (old := old) (Nat.le_refl M0) l.reverse
              have HBO := Lib.hid (And.intro hbo hM)
              clear hbo hM
              by_cases hL0 : L = 0
              · have dl : ((L : Int) == 0) = true := by simp [hL0]
                have HL0 := Lib.hid hL0
                clear hL0
                refine calls_of_wp_marks Tryd.func23 rfl ?_
                simp only [Tryd.ntmps23, List.size_toArray, List.length_cons, List.length_nil, Nat.reduceAdd, Nat.reduceSub, Array.replicate_succ, Array.replicate_zero, List.push_toArray, List.append_toArray, List.nil_append, List.cons_append]
                go_wp2_with (first | (go_at_call 45; have hq := HALL.out _ HR.out; rw [HLR.out.1, HV.out.2] at hq; refine hq.mono ?_; rintro e w' ⟨rfl, hw'⟩; obtain rfl := hw'.symm) | (go_at_call 51; refine (isDigest_walk old ho1 _).mono ?_; rintro e w' ⟨rfl, hw'⟩; obtain rfl := hw'.symm) | (go_at_call 51; refine (isDigest_walk root hr1 _).mono ?_; rintro e w' ⟨rfl, hw'⟩; obtain rfl := hw'.symm) | fail)
                refine ⟨_, results_tmp rfl _ _ _, ?_, Below.refl _ _⟩
                have hl0 : l = [] := List.eq_nil_of_length_eq_zero (by rw [HLR.out.1, HL0.out])
                rw [HV.out.1, if_neg HBO.out.2, HBO.out.1, hl0]
                show Ending.returned (.bool (old.toList == root.toList)) = _
                rw [str_eq]
                simp
              · have dl : ((L : Int) == 0) = false := by simp; omega
                have HL0 := Lib.hid hL0
                clear hL0
                refine calls_of_wp_marks Tryd.func23 rfl ?_
                simp only [Tryd.ntmps23, List.size_toArray, List.length_cons, List.length_nil, Nat.reduceAdd, Nat.reduceSub, Array.replicate_succ, Array.replicate_zero, List.push_toArray, List.append_toArray, List.nil_append, List.cons_append]
                go_wp2_with (first | (go_at_call 45; have hq := HALL.out _ HR.out; rw [HLR.out.1, HV.out.2] at hq; refine hq.mono ?_; rintro e w' ⟨rfl, hw'⟩; obtain rfl := hw'.symm) | (go_at_call 51; refine (isDigest_walk old ho1 _).mono ?_; rintro e w' ⟨rfl, hw'⟩; obtain rfl := hw'.symm) | (go_at_call 51; refine (isDigest_walk root hr1 _).mono ?_; rintro e w' ⟨rfl, hw'⟩; obtain rfl := hw'.symm) | fail)
                refine ⟨_, results_tmp rfl _ _ _, ?_, Below.refl _ _⟩
                have hl0 : ¬ l.reverse = [] := fun h => HL0.out (by rw [← HLR.out.1, List.reverse_eq_nil_iff.1 h]; rfl)
                rw [HV.out.1, if_neg HBO.out.2, HBO.out.1, if_neg hl0]
                rfl
            · have dE' : ((M0 : Int) == (N0 : Int)) = false := by simp; omega
              have hML : M0 < N0 := by omega
              rw [if_neg hM] at HV
              refine calls_of_wp_marks Tryd.func23 rfl ?_
              simp only [Tryd.ntmps23, List.size_toArray, List.length_cons, List.length_nil, Nat.reduceAdd, Nat.reduceSub, Array.replicate_succ, Array.replicate_zero, List.push_toArray, List.append_toArray, List.nil_append, List.cons_append]
              go_wp2_with (first | (go_at_call 45; have hq := HALL.out _ HR.out; rw [HLR.out.1, HV.out.2] at hq; refine hq.mono ?_; rintro e w' ⟨rfl, hw'⟩; obtain rfl := hw'.symm) | (go_at_call 51; refine (isDigest_walk old ho1 _).mono ?_; rintro e w' ⟨rfl, hw'⟩; obtain rfl := hw'.symm) | (go_at_call 51; refine (isDigest_walk root hr1 _).mono ?_; rintro e w' ⟨rfl, hw'⟩; obtain rfl := hw'.symm) | fail)
              go_loopw [1, 3, 4, 11, 12] (fun vm vn vp vw vb wr => ∃ (m' n' j : Nat) (W : List (ByteArray × Bool)) (b : Bool), vm = .int .i64 (m' : Int) ∧ vn = .int .i64 (n' : Int) ∧ vp = .slice A j c ∧ vb = .bool b ∧ j ≤ L ∧ 1 ≤ m' ∧ m' ≤ n' ∧ n' ≤ N0 ∧ W.length + j = L ∧ Hid (wr.ownsRow w.heap.size 58 2 vw W.length (sideCells W)) ∧ Hid (∀ x ∈ W, x.1.size = 32) ∧ Hid (Tree.both dN old M0 N0 l.reverse true = (Tree.both dN old m' n' (l.take j).reverse b).map (fun p => (W.foldr joinF p.1, W.foldr joinS p.2))) ∧ Below w.heap.size w wr) (fun vm vn vp vw vb wr => lenOf vp)
              case atStart => exact ⟨M0, N0, L, [], true, rfl, rfl, rfl, rfl, Nat.le_refl _, by omega, by omega, Nat.le_refl _, by simp, Lib.hid (World.ownsRow_nil _ _ _ _), Lib.hid (by simp), Lib.hid (by rw [List.take_of_length_le (by rw [HLR.out.1]; exact Nat.le_refl _)]; simp), Below.refl _ _⟩
              case round =>
                obtain ⟨m', n', j, W, b, rfl, rfl, rfl, rfl, hjL, hm1', hmn', hnN, hWj, hown, hw32, hval, hbel⟩ := hrel
                by_cases hlt : m' < n'
                · have d3 : decide ((m' : Int) < (n' : Int)) = true := decide_eq_true (by omega)
                  by_cases hj0 : j = 0
                  · subst hj0
                    have htk := take_walk A 0 c wr ⟨#[]⟩ (fun h => absurd h (by omega)) (by omega) (by omega)
                    rw [if_pos rfl] at htk
                    have HT := Lib.hid htk
                    clear htk
                    have hres : decide (Tree.both dN old M0 N0 l.reverse true = some (old, root)) = false := by
                      rw [hval.out, List.take_zero, List.reverse_nil, Tree.both_nil (nd := dN) (old := old) hlt b]
                      simp
                    have HRES := Lib.hid hres
                    clear hres
                    go_wp2_with (first | (go_at_call 46; refine (HT.out).mono ?_; rintro e w2 ⟨rfl, m2, rfl⟩) | fail)
                    refine ⟨_, results_tmp rfl _ _ _, ?_, below_dN hbel m2⟩
                    rw [HV.out.1, HRES.out]
                    rfl
                  obtain ⟨x, hx⟩ : ∃ x, l[j - 1]? = some x := ⟨l[j - 1]'(by rw [HLR.out.1]; omega), List.getElem?_eq_getElem _⟩
                  obtain ⟨ad, hA, _⟩ := HLR.out.2.2.2 (by omega)
                  subst hA
                  have hcell : wr.cell? (ad.add (j - 1)) = some (.string x) := by
                    have h0 := strs_cell HLR.out.2 hx
                    rw [hbel.cell (World.block_lt_of_cell? w _ h0)]
                    exact h0
                  have htk := take_walk (some ad) j c wr x (fun _ => ⟨ad, rfl, hcell⟩) (by omega) (by omega)
                  rw [if_neg hj0] at htk
                  have HT := Lib.hid htk
                  obtain ⟨j1, hj1⟩ : ∃ j1, j = j1 + 1 := ⟨j - 1, by omega⟩
                  subst hj1
                  rw [Nat.add_sub_cancel] at hx
                  have HX := Lib.hid hx
                  clear htk hcell hx hj0
                  obtain ⟨k, hk⟩ : ∃ k, Tree.left n' = k := ⟨_, rfl⟩
                  have hkn : 0 < k ∧ k < n' := by rw [← hk]; exact ⟨Tree.left_pos _, Tree.left_lt (by omega)⟩
                  have HK := Lib.hid hk
                  clear hk
                  have hstep : ∀ (b2 : Bool) (m2 n2 : Nat) (b3 : Bool), (if b2 then k < m' ∧ m2 = m' - k ∧ n2 = n' - k ∧ b3 = false else m' ≤ k ∧ m2 = m' ∧ n2 = k ∧ b3 = b) → Tree.both dN old M0 N0 l.reverse true = (Tree.both dN old m2 n2 (l.take j1).reverse b3).map (fun p => ((W ++ [(x, b2)]).foldr joinF p.1, (W ++ [(x, b2)]).foldr joinS p.2)) := by
                    intro b2 m2 n2 b3 hb
                    rw [hval.out]
                    have hrev : (l.take (j1 + 1)).reverse = x :: (l.take j1).reverse := by rw [List.take_add_one, HX.out]; simp
                    rw [hrev]
                    cases b2 with
                    | true =>
                      simp only [if_true] at hb
                      obtain ⟨h1, rfl, rfl, rfl⟩ := hb
                      rw [← HK.out, Tree.both_high (nd := dN) (old := old) hlt (by rw [HK.out]; exact h1), Option.map_map]
                      congr 1
                      funext v
                      simp [joinS, joinF]
                    | false =>
                      simp only [Bool.false_eq_true, if_false] at hb
                      obtain ⟨h1, rfl, rfl, rfl⟩ := hb
                      rw [← HK.out, Tree.both_low (nd := dN) (old := old) hlt (by rw [HK.out]; exact h1), Option.map_map]
                      congr 1
                      funext v
                      simp [joinS, joinF]
                  have HST := Lib.hid hstep
                  clear hstep
                  have hkn1 := hkn.1
                  have hkn2 := hkn.2
                  clear hkn
                  have hNr := hbel.size
                  have hlf := fun W0 => left_walk n' (by omega) (by omega) W0
                  have HLF := Lib.hid hlf
                  clear hlf
                  obtain ⟨q, hq⟩ : ∃ q, W.length = q := ⟨_, rfl⟩
                  have ho := hown.out
                  rw [hq] at ho hWj
                  have HO := Lib.hid ho
                  have HQ := Lib.hid hq
                  clear ho hq
                  by_cases hik : k < m'
                  · have d4 : decide ((k : Int) < (m' : Int)) = true := decide_eq_true (by omega)
                    go_wp2_with (first | (go_at_call 46; refine (HT.out).mono ?_; rintro e w2 ⟨rfl, m2, rfl⟩; have HO2 := Lib.hid (own_dN HO.out m2)) | (go_at_call 40; refine (HLF.out _).mono ?_; rintro e w2 ⟨he, hw2⟩; obtain rfl := hw2.symm; rw [HK.out] at he; subst he) | (at_builtin; refine wpList_append_own _ (by rfl) (.tmp 81) (.tmp 87) 54 (by rfl) w.heap.size 58 i0 _ 2 24 Tryd.underlying54 hi hz0 hz1 hz2 (by rfl) (by decide) u11 q (sideCells W) (by rfl) (HO2.out.alloc _) ⟨wr.heap.size, 0, none⟩ 1 1 [.string x, .bool true] (by rfl) rfl (news_new _ _ _ _ _ rfl rfl) (by simp [Value.oneCell']) (by unfold maxLen; omega) (by omega) (by simp; omega) ?_; intro v3' w3 hown3 hg3 hnil3) | fail)
                    go_roundw
                    case rel =>
                      have hlen : (W ++ [(x, true)]).length = q + 1 := by rw [List.length_append, HQ.out, List.length_singleton]
                      refine ⟨m' - k, n' - k, j1, W ++ [(x, true)], false, by congr 1; omega, by congr 1; omega, by simp, rfl, by omega, by omega, by omega, by omega, by rw [hlen]; omega, Lib.hid ?_, Lib.hid ?_, Lib.hid (HST.out true _ _ _ (by rw [if_pos rfl]; exact ⟨hik, rfl, rfl, rfl⟩)), ?_⟩
                      · rw [hlen, sideCells_snoc]
                        exact hown3
                      · intro y hy
                        rcases List.mem_append.1 hy with h | h
                        · exact hw32.out y h
                        · rw [List.mem_singleton] at h; rw [h]; exact HDS.out.1 x (List.mem_of_getElem? HX.out)
                      · exact Below.grown ((below_dN hbel m2).alloc (by simpa using hNr) _) hg3 (by simp; omega) (fun k hk => (HO2.out.lt k hk).1)
                    case measure => simp [lenOf]
                  · have d4 : decide ((k : Int) < (m' : Int)) = false := decide_eq_false (by omega)
                    go_wp2_with (first | (go_at_call 46; refine (HT.out).mono ?_; rintro e w2 ⟨rfl, m2, rfl⟩; have HO2 := Lib.hid (own_dN HO.out m2)) | (go_at_call 40; refine (HLF.out _).mono ?_; rintro e w2 ⟨he, hw2⟩; obtain rfl := hw2.symm; rw [HK.out] at he; subst he) | (at_builtin; refine wpList_append_own _ (by rfl) (.tmp 81) (.tmp 87) 54 (by rfl) w.heap.size 58 i0 _ 2 24 Tryd.underlying54 hi hz0 hz1 hz2 (by rfl) (by decide) u11 q (sideCells W) (by rfl) (HO2.out.alloc _) ⟨wr.heap.size, 0, none⟩ 1 1 [.string x, .bool false] (by rfl) rfl (news_new _ _ _ _ _ rfl rfl) (by simp [Value.oneCell']) (by unfold maxLen; omega) (by omega) (by simp; omega) ?_; intro v3' w3 hown3 hg3 hnil3) | fail)
                    go_roundw
                    case rel =>
                      have hlen : (W ++ [(x, false)]).length = q + 1 := by rw [List.length_append, HQ.out, List.length_singleton]
                      refine ⟨m', k, j1, W ++ [(x, false)], b, rfl, rfl, by simp, rfl, by omega, by omega, by omega, by omega, by rw [hlen]; omega, Lib.hid ?_, Lib.hid ?_, Lib.hid (HST.out false _ _ _ (by rw [if_neg (by simp)]; exact ⟨by omega, rfl, rfl, rfl⟩)), ?_⟩
                      · rw [hlen, sideCells_snoc]
                        exact hown3
                      · intro y hy
                        rcases List.mem_append.1 hy with h | h
                        · exact hw32.out y h
                        · rw [List.mem_singleton] at h; rw [h]; exact HDS.out.1 x (List.mem_of_getElem? HX.out)
                      · exact Below.grown ((below_dN hbel m2).alloc (by simpa using hNr) _) hg3 (by simp; omega) (fun k hk => (HO2.out.lt k hk).1)
                    case measure => simp [lenOf]
                · have hE' : m' = n' := by omega
                  subst hE'
                  have d3 : decide ((m' : Int) < (m' : Int)) = false := by simp
                  obtain ⟨q, hq⟩ : ∃ q, W.length = q := ⟨_, rfl⟩
                  have ho := hown.out
                  rw [hq] at ho hWj
                  have HO := Lib.hid ho
                  have HQ := Lib.hid hq
                  clear ho hq
                  have hNr := hbel.size
                  obtain ⟨A', c', hvw⟩ : ∃ A' c', u11 = .slice A' q c' := by
                    rcases HO.out.2 with ⟨h, h0⟩ | ⟨g, cap, cur, h, _⟩
                    · exact ⟨none, 0, by rw [h, h0]⟩
                    · exact ⟨_, _, h⟩
                  subst hvw
                  cases b with
                  | true =>
                    have hv1 := hval.out
                    rw [Tree.both_whole (nd := dN) (old := old) (Nat.le_refl m')] at hv1
                    have HV1 := Lib.hid hv1
                    clear hv1
                    go_wp2_with (first | (go_at_call 47; refine (backS_walk _ _ _ _).mono ?_; rintro e w9 ⟨rfl, rfl⟩) | fail)
                    have hB1 : Blk (((wr.alloc (.cells #[.string old] 9)).alloc (.cells #[.string old] 9)).alloc (.cells #[.slice A' q c'] 54)) wr.heap.size 9 [.string old] := ((Blk.newA _ _ _ _ rfl).alloc _).alloc _
                    have hB2 : Blk (((wr.alloc (.cells #[.string old] 9)).alloc (.cells #[.string old] 9)).alloc (.cells #[.slice A' q c'] 54)) (wr.heap.size + 1) 9 [.string old] := (cast_blk (Blk.newA _ _ _ _ rfl) (by simp)).alloc _
                    have hB0 : Blk (((wr.alloc (.cells #[.string old] 9)).alloc (.cells #[.string old] 9)).alloc (.cells #[.slice A' q c'] 54)) (wr.heap.size + 2) 54 [.slice A' q c'] := cast_blk (Blk.newA _ _ _ _ rfl) (by simp)
                    have hbW : Below wr.heap.size wr (((wr.alloc (.cells #[.string old] 9)).alloc (.cells #[.string old] 9)).alloc (.cells #[.slice A' q c'] 54)) := (((Below.refl _ _).alloc (Nat.le_refl _) _).alloc (by simp) _).alloc (by simp; omega) _
                    have HOLD := Lib.hid HDS.out.2
                    generalize (((wr.alloc (.cells #[.string old] 9)).alloc (.cells #[.string old] 9)).alloc (.cells #[.slice A' q c'] 54)) = WW at *
                    have hgiv := side_gives2 HQ.out (by omega) HO.out _ (wr.heap.size + 2) hB0 hbW (KS := fun k => k < WW.heap.size ∧ k ≠ wr.heap.size ∧ k ≠ wr.heap.size + 1) (fun k hk => by rcases hk with rfl | hk; exact ⟨hB0.lt, by omega, by omega⟩; exact ⟨Nat.lt_of_lt_of_le hk hbW.size, by omega, by omega⟩)
                    have hbWw : Below w.heap.size w WW := hbel.trans (hbW.mono (by omega))
                    have hGW0 := HG.out.below hbWw
                    have HGW := Lib.hid (And.intro hGW0 hbWw)
                    have hsz0 := hB0.lt
                    clear hGW0 hbWw hB0
                    refine wp_rangeFunc_box (d := 20) (T := 58) (gf := 63) (lb := #[.pointer (some ⟨wr.heap.size + 2, 0, none⟩)]) rfl (enters_of Tryd.func63 (by kernel_rfl) rfl) (KS := fun k => k < WW.heap.size ∧ k ≠ wr.heap.size ∧ k ≠ wr.heap.size + 1) (fun k hk => hk.1) hgiv (Below.refl _ _) (fun _ => rfl)
                      (fun p => [.string p.2.1, .bool p.2.2]) ?assign (fun pre V => Blk V wr.heap.size 9 [.string (valF old pre)] ∧ Blk V (wr.heap.size + 1) 9 [.string (valS old pre)] ∧ Two wr.heap.size (wr.heap.size + 1) WW V) (OwnFrom.and (own_blk _ (by omega)) (OwnFrom.and (own_blk _ (by omega)) (own_two (Nat.le_refl _)))) ⟨hB1, hB2, Two.refl _ _ _⟩ ?body ?done
                    case assign =>
                      intro l' p V K hK
                      have hK' := Lib.hid hK
                      clear hK hgiv
                      simp only [pairS]
                      gi_wp2
                      have h := hK'.out
                      simp [boxAct, pairS] at h
                      exact h
                    case body =>
                      intro l' pre p B V hI hBlk hBs hpre
                      obtain ⟨hbV1, hbV2, hgr⟩ := hI
                      have hpW : p.2 ∈ W := by
                        have h1 : p ∈ backs (⟨#[]⟩, false) W := hpre.subset (by simp)
                        have h2 : p.2 ∈ (backs (⟨#[]⟩, false) W).map (·.2) := List.mem_map.2 ⟨p, h1, rfl⟩
                        rw [backs_snd, List.mem_reverse] at h2
                        exact h2
                      have hp32 := hw32.out p.2 hpW
                      have hv132 := valF_size old HOLD.out pre
                      have hv232 := valS_size old HOLD.out pre
                      obtain ⟨v1, hv1⟩ : ∃ v, valF old pre = v := ⟨_, rfl⟩
                      obtain ⟨v2, hv2⟩ : ∃ v, valS old pre = v := ⟨_, rfl⟩
                      rw [hv1] at hbV1 hv132
                      rw [hv2] at hbV2 hv232
                      have HVV := Lib.hid (And.intro hv1 hv2)
                      have hsz1 : p.2.1.size + v1.size ≤ 140737488349000 := by omega
                      have hsz2 : p.2.1.size + v2.size ≤ 140737488349000 := by omega
                      have hGL : ∀ V', Two wr.heap.size (wr.heap.size + 1) WW V' → GL V' := by
                        intro V' hgr' i hi'
                        have h0 := HGW.out.1 i hi'
                        have hlt := World.block_lt_of_cell? WW _ h0
                        have hlw := World.block_lt_of_cell? w _ (HG.out i hi')
                        have h1 := hgr'.block 0 (by simpa using hlt) (by simp only at hlw; omega) (by simp only at hlw; omega)
                        rw [World.cell?_of_block (a := ⟨0, i, none⟩) h1]
                        exact h0
                      have HGL := Lib.hid hGL
                      have cb0 : V.cell? ⟨B, 0, none⟩ = some (.string p.2.1) := hBlk.cell rfl
                      have cb1 : V.cell? ⟨B, 1, none⟩ = some (.bool p.2.2) := hBlk.cell rfl
                      have co1 : V.cell? ⟨wr.heap.size, 0, none⟩ = some (.string v1) := hbV1.cell rfl
                      have co2 : V.cell? ⟨wr.heap.size + 1, 0, none⟩ = some (.string v2) := hbV2.cell rfl
                      clear hpre hgiv hv132 hv232 hp32 hv1 hv2 hGL hpW
                      have hBne1 : B ≠ wr.heap.size := by omega
                      have hBne2 : B ≠ wr.heap.size + 1 := by omega
                      by_cases hp2 : p.2.2 = true
                      · rw [hp2] at cb1
                        simp only [boxAct, pairS]
                        simp
                        gi_wp2_with fail
                        refine ⟨trivial, ?_⟩
                        have HJ := Lib.hid (join_walk p.2.1 true v1 hsz1 V (HGL.out V hgr))
                        refine CallsIn.mono (CallsIn.inRound l' ((callsIn_wide (n := 2)).2 HJ.out)) ?_
                        rintro e W3 ⟨rfl, hb3⟩
                        have hb13 := hbV1.belowS hb3
                        have hb23 := hbV2.belowS hb3
                        have hB3 := hBlk.belowS hb3
                        have hg3 : V.grownBy (W3.setCell ⟨wr.heap.size, 0, none⟩ (.string (joinS (p.2.1, true) v1))) (some wr.heap.size) := grown_trans (below_grown (B := 0) hb3 _) (grown_setCells (b := wr.heap.size) [_] 0 W3)
                        have hgr3 := hgr.trans (Two.one (O2 := wr.heap.size + 1) hg3)
                        have hb14 := hb13.set 0 (.string (joinS (p.2.1, true) v1))
                        have hb24 := hb23.set_other ⟨wr.heap.size, 0, none⟩ (by simp) (.string (joinS (p.2.1, true) v1))
                        have hB4 := hB3.set_other ⟨wr.heap.size, 0, none⟩ hBne1 (.string (joinS (p.2.1, true) v1))
                        have cb30 : (W3.setCell ⟨wr.heap.size, 0, none⟩ (.string (joinS (p.2.1, true) v1))).cell? ⟨B, 0, none⟩ = some (.string p.2.1) := hB4.cell rfl
                        have cb31 : (W3.setCell ⟨wr.heap.size, 0, none⟩ (.string (joinS (p.2.1, true) v1))).cell? ⟨B, 1, none⟩ = some (.bool true) := hB4.cell (by rw [← hp2]; rfl)
                        have co32 : (W3.setCell ⟨wr.heap.size, 0, none⟩ (.string (joinS (p.2.1, true) v1))).cell? ⟨wr.heap.size + 1, 0, none⟩ = some (.string v2) := hb24.cell rfl
                        have co31 : W3.cell? ⟨wr.heap.size, 0, none⟩ = some (.string v1) := hb13.cell rfl
                        have cf3 := hb13.free 0
                        gi_wp2_with fail
                        refine ⟨trivial, ?_⟩
                        have HJ2 := Lib.hid (join_walk p.2.1 true v2 hsz2 _ (HGL.out _ hgr3))
                        refine CallsIn.mono (CallsIn.inRound l' ((callsIn_wide (n := 2)).2 HJ2.out)) ?_
                        rintro e W5 ⟨rfl, hb5⟩
                        have hb15 := hb14.belowS hb5
                        have hb25 := hb24.belowS hb5
                        have co52 : W5.cell? ⟨wr.heap.size + 1, 0, none⟩ = some (.string v2) := hb25.cell rfl
                        have cf5 := hb25.free 0
                        have hg5 : (W3.setCell ⟨wr.heap.size, 0, none⟩ (.string (joinS (p.2.1, true) v1))).grownBy (W5.setCell ⟨wr.heap.size + 1, 0, none⟩ (.string (joinS (p.2.1, true) v2))) (some (wr.heap.size + 1)) := grown_trans (below_grown (B := 0) hb5 _) (grown_setCells (b := wr.heap.size + 1) [_] 0 W5)
                        have hgr5 := (Two.one (O2 := wr.heap.size + 1) hg3).trans (Two.two (O1 := wr.heap.size) hg5)
                        gi_wp2
                        refine ⟨keeps_two hgr5 (by omega) (by omega), ?_, ?_, ?_, hgr.trans hgr5⟩
                        · intro k' hk'
                          exact hgr5.block k' (by have := hgr.size; omega) hk'.2.1 hk'.2.2
                        · rw [valF_snoc, HVV.out.1]
                          have ej : joinF p.2 v1 = joinS (p.2.1, true) v1 := by unfold joinF; rw [if_pos hp2, ← hp2]
                          rw [ej]
                          exact hb15.set_other ⟨wr.heap.size + 1, 0, none⟩ (by simp) _
                        · rw [valS_snoc, HVV.out.2]
                          have ej : joinS p.2 v2 = joinS (p.2.1, true) v2 := by rw [← hp2]
                          rw [ej]
                          exact hb25.set 0 _
                      · have hp2' : p.2.2 = false := by simpa using hp2
                        rw [hp2'] at cb1
                        simp only [boxAct, pairS]
                        simp
                        gi_wp2_with fail
                        refine ⟨trivial, ?_⟩
                        have HJ := Lib.hid (join_walk p.2.1 false v2 hsz2 V (HGL.out V hgr))
                        refine CallsIn.mono (CallsIn.inRound l' ((callsIn_wide (n := 2)).2 HJ.out)) ?_
                        rintro e W3 ⟨rfl, hb3⟩
                        have hb13 := hbV1.belowS hb3
                        have hb23 := hbV2.belowS hb3
                        have hg3 : V.grownBy (W3.setCell ⟨wr.heap.size + 1, 0, none⟩ (.string (joinS (p.2.1, false) v2))) (some (wr.heap.size + 1)) := grown_trans (below_grown (B := 0) hb3 _) (grown_setCells (b := wr.heap.size + 1) [_] 0 W3)
                        have hgr3 := Two.two (O1 := wr.heap.size) hg3
                        have co31 : W3.cell? ⟨wr.heap.size + 1, 0, none⟩ = some (.string v2) := hb23.cell rfl
                        have cf3 := hb23.free 0
                        gi_wp2
                        refine ⟨keeps_two hgr3 (by omega) (by omega), ?_, ?_, ?_, hgr.trans hgr3⟩
                        · intro k' hk'
                          exact hgr3.block k' (by have := hgr.size; omega) hk'.2.1 hk'.2.2
                        · rw [valF_snoc, HVV.out.1]
                          have ej : joinF p.2 v1 = v1 := by unfold joinF; rw [if_neg hp2]
                          rw [ej]
                          exact hb13.set_other ⟨wr.heap.size + 1, 0, none⟩ (by simp) _
                        · rw [valS_snoc, HVV.out.2]
                          have ej : joinS p.2 v2 = joinS (p.2.1, false) v2 := by rw [← hp2']
                          rw [ej]
                          exact hb23.set 0 _
                    case done =>
                      rintro D V hD ⟨hbV1, hbV2, hgr⟩ hK
                      rw [valF_all] at hbV1
                      rw [valS_all] at hbV2
                      obtain ⟨v1, hv1⟩ : ∃ v, W.foldr joinF old = v := ⟨_, rfl⟩
                      obtain ⟨v2, hv2⟩ : ∃ v, W.foldr joinS old = v := ⟨_, rfl⟩
                      rw [hv1] at hbV1
                      rw [hv2] at hbV2
                      have co1 : V.cell? ⟨wr.heap.size, 0, none⟩ = some (.string v1) := hbV1.cell rfl
                      have co2 : V.cell? ⟨wr.heap.size + 1, 0, none⟩ = some (.string v2) := hbV2.cell rfl
                      have HVV := Lib.hid (And.intro hv1 hv2)
                      clear hv1 hv2 hgiv
                      by_cases hm0 : j = 0
                      · have dm : ((j : Int) == 0) = true := by simp [hm0]
                        have HM0 := Lib.hid hm0
                        clear hm0
                        by_cases h1 : v1 = old
                        · have ds1 : (v1.toList == old.toList) = true := by rw [h1]; simp
                          have H1 := Lib.hid h1
                          clear h1
                          go_wp2
                          refine ⟨by simp, .inl ⟨_, _, rfl, run_takeDeferred hK, ?_⟩⟩
                          have hgs := hgr.size
                          refine ⟨_, results_tmp rfl _ _ _, ?_, ?_⟩
                          · rw [HV.out.1, HV1.out]
                            have hnil : (l.take j).reverse = [] := by rw [HM0.out]; rfl
                            rw [if_pos hnil]
                            show Ending.returned (.bool (v2.toList == root.toList)) = _
                            rw [str_eq, ← HVV.out.2]
                            simp [HVV.out.1, H1.out]
                          · have b2 : Below w.heap.size w V := hgr.toBelow HGW.out.2 (by omega) (by omega) (by omega)
                            exact b2.trans (belowK_b (w := w) (Nat.le_refl _) V D _ _ (by omega) hK rfl rfl)
                        · have ds1 : (v1.toList == old.toList) = false := by rw [str_eq]; exact decide_eq_false h1
                          have H1 := Lib.hid h1
                          clear h1
                          go_wp2
                          refine ⟨by simp, .inl ⟨_, _, rfl, run_takeDeferred hK, ?_⟩⟩
                          have hgs := hgr.size
                          refine ⟨_, results_tmp rfl _ _ _, ?_, ?_⟩
                          · rw [HV.out.1, HV1.out]
                            have hnil : (l.take j).reverse = [] := by rw [HM0.out]; rfl
                            rw [if_pos hnil]
                            simp [HVV.out.1, H1.out]
                          · have b2 : Below w.heap.size w V := hgr.toBelow HGW.out.2 (by omega) (by omega) (by omega)
                            exact b2.trans (belowK_b (w := w) (Nat.le_refl _) V D _ _ (by omega) hK rfl rfl)
                      · have dm : ((j : Int) == 0) = false := by simp; omega
                        have HM0 := Lib.hid hm0
                        clear hm0
                        go_wp2
                        refine ⟨by simp, .inl ⟨_, _, rfl, run_takeDeferred hK, ?_⟩⟩
                        have hgs := hgr.size
                        refine ⟨_, results_tmp rfl _ _ _, ?_, ?_⟩
                        · rw [HV.out.1, HV1.out]
                          have hnil : ¬ (l.take j).reverse = [] := by
                            intro h
                            have := congrArg List.length h
                            rw [List.length_reverse, List.length_take, HLR.out.1] at this
                            have := HM0.out
                            simp at *
                            omega
                          rw [if_neg hnil]
                          rfl
                        · have b2 : Below w.heap.size w V := hgr.toBelow HGW.out.2 (by omega) (by omega) (by omega)
                          exact b2.trans (belowK_b (w := w) (Nat.le_refl _) V D _ _ (by omega) hK rfl rfl)
                  | false =>
                    have hv1 := hval.out
                    rw [Tree.both_part (nd := dN) (old := old) (Nat.le_refl m')] at hv1
                    have HV1 := Lib.hid hv1
                    clear hv1
                    by_cases hj1 : j = 1
                    · subst hj1
                      have dj : (((1 : Nat) : Int) != 1) = false := by decide
                      obtain ⟨x, hx⟩ : ∃ x, l[0]? = some x := ⟨l[0]'(by rw [HLR.out.1]; omega), List.getElem?_eq_getElem _⟩
                      obtain ⟨ad, hA, _⟩ := HLR.out.2.2.2 (by omega)
                      subst hA
                      have hcell : wr.cell? (ad.add 0) = some (.string x) := by
                        have h0 := strs_cell HLR.out.2 hx
                        rw [hbel.cell (World.block_lt_of_cell? w _ h0)]
                        exact h0
                      have HX := Lib.hid hx
                      clear hx
                      go_wp2_with (first | fail)
                      have hlt1 := World.block_lt_of_cell? _ _ hcell
                      have hck : ∀ o1 o2 : Obj, ((wr.alloc o1).alloc o2).cell? ad = some (.string x) := by
                        intro o1 o2
                        exact ((((Below.refl wr.heap.size wr).alloc (Nat.le_refl _) o1).alloc (by simp) o2).cell hlt1).trans hcell
                      refine wp_region_noPanic ?_
                      go_region_held3 (fun w' => w'.cell? ad = some (.string x)) (first | exact hck _ _ | fail) (first | fail)
                      refine NoPanic.normal ?_
                      go_wp2_with (first | (go_at_call 47; refine (backS_walk _ _ _ _).mono ?_; rintro e w9 ⟨rfl, rfl⟩) | fail)
                      have hB1 : Blk ((((wr.alloc (.cells #[.string x] 9)).alloc (.cells #[.string x] 9)).alloc (.cells #[.slice A' q c'] 54)).drew) wr.heap.size 9 [.string x] := (((Blk.newA _ _ _ _ rfl).alloc _).alloc _).drew
                      have hB2 : Blk ((((wr.alloc (.cells #[.string x] 9)).alloc (.cells #[.string x] 9)).alloc (.cells #[.slice A' q c'] 54)).drew) (wr.heap.size + 1) 9 [.string x] := ((cast_blk (Blk.newA _ _ _ _ rfl) (by simp)).alloc _).drew
                      have hB0 : Blk ((((wr.alloc (.cells #[.string x] 9)).alloc (.cells #[.string x] 9)).alloc (.cells #[.slice A' q c'] 54)).drew) (wr.heap.size + 2) 54 [.slice A' q c'] := (cast_blk (Blk.newA _ _ _ _ rfl) (by simp)).drew
                      have hbW0 : Below wr.heap.size wr (((wr.alloc (.cells #[.string x] 9)).alloc (.cells #[.string x] 9)).alloc (.cells #[.slice A' q c'] 54)) := (((Below.refl _ _).alloc (Nat.le_refl _) _).alloc (by simp) _).alloc (by simp; omega) _
                      have hbW : Below wr.heap.size wr ((((wr.alloc (.cells #[.string x] 9)).alloc (.cells #[.string x] 9)).alloc (.cells #[.slice A' q c'] 54)).drew) := ⟨hbW0.os, hbW0.tape, hbW0.output, hbW0.size, hbW0.block⟩
                      have HOLD := Lib.hid (HDS.out.1 x (List.mem_of_getElem? HX.out))
                      clear hck hlt1 hcell hbW0
                      generalize ((((wr.alloc (.cells #[.string x] 9)).alloc (.cells #[.string x] 9)).alloc (.cells #[.slice A' q c'] 54)).drew) = WW at *
                      have hgiv := side_gives2 HQ.out (by omega) HO.out _ (wr.heap.size + 2) hB0 hbW (KS := fun k => k < WW.heap.size ∧ k ≠ wr.heap.size ∧ k ≠ wr.heap.size + 1) (fun k hk => by rcases hk with rfl | hk; exact ⟨hB0.lt, by omega, by omega⟩; exact ⟨Nat.lt_of_lt_of_le hk hbW.size, by omega, by omega⟩)
                      have hbWw : Below w.heap.size w WW := hbel.trans (hbW.mono (by omega))
                      have hGW0 := HG.out.below hbWw
                      have HGW := Lib.hid (And.intro hGW0 hbWw)
                      have hsz0 := hB0.lt
                      clear hGW0 hbWw hB0
                      refine wp_rangeFunc_box (d := 20) (T := 58) (gf := 63) (lb := #[.pointer (some ⟨wr.heap.size + 2, 0, none⟩)]) rfl (enters_of Tryd.func63 (by kernel_rfl) rfl) (KS := fun k => k < WW.heap.size ∧ k ≠ wr.heap.size ∧ k ≠ wr.heap.size + 1) (fun k hk => hk.1) hgiv (Below.refl _ _) (fun _ => rfl)
                        (fun p => [.string p.2.1, .bool p.2.2]) ?assign (fun pre V => Blk V wr.heap.size 9 [.string (valF x pre)] ∧ Blk V (wr.heap.size + 1) 9 [.string (valS x pre)] ∧ Two wr.heap.size (wr.heap.size + 1) WW V) (OwnFrom.and (own_blk _ (by omega)) (OwnFrom.and (own_blk _ (by omega)) (own_two (Nat.le_refl _)))) ⟨hB1, hB2, Two.refl _ _ _⟩ ?body ?done
                      case assign =>
                        intro l' p V K hK
                        have hK' := Lib.hid hK
                        clear hK hgiv
                        simp only [pairS]
                        gi_wp2
                        have h := hK'.out
                        simp [boxAct, pairS] at h
                        exact h
                      case body =>
                        intro l' pre p B V hI hBlk hBs hpre
                        obtain ⟨hbV1, hbV2, hgr⟩ := hI
                        have hpW : p.2 ∈ W := by
                          have h1 : p ∈ backs (⟨#[]⟩, false) W := hpre.subset (by simp)
                          have h2 : p.2 ∈ (backs (⟨#[]⟩, false) W).map (·.2) := List.mem_map.2 ⟨p, h1, rfl⟩
                          rw [backs_snd, List.mem_reverse] at h2
                          exact h2
                        have hp32 := hw32.out p.2 hpW
                        have hv132 := valF_size x HOLD.out pre
                        have hv232 := valS_size x HOLD.out pre
                        obtain ⟨v1, hv1⟩ : ∃ v, valF x pre = v := ⟨_, rfl⟩
                        obtain ⟨v2, hv2⟩ : ∃ v, valS x pre = v := ⟨_, rfl⟩
                        rw [hv1] at hbV1 hv132
                        rw [hv2] at hbV2 hv232
                        have HVV := Lib.hid (And.intro hv1 hv2)
                        have hsz1 : p.2.1.size + v1.size ≤ 140737488349000 := by omega
                        have hsz2 : p.2.1.size + v2.size ≤ 140737488349000 := by omega
                        have hGL : ∀ V', Two wr.heap.size (wr.heap.size + 1) WW V' → GL V' := by
                          intro V' hgr' i hi'
                          have h0 := HGW.out.1 i hi'
                          have hlt := World.block_lt_of_cell? WW _ h0
                          have hlw := World.block_lt_of_cell? w _ (HG.out i hi')
                          have h1 := hgr'.block 0 (by simpa using hlt) (by simp only at hlw; omega) (by simp only at hlw; omega)
                          rw [World.cell?_of_block (a := ⟨0, i, none⟩) h1]
                          exact h0
                        have HGL := Lib.hid hGL
                        have cb0 : V.cell? ⟨B, 0, none⟩ = some (.string p.2.1) := hBlk.cell rfl
                        have cb1 : V.cell? ⟨B, 1, none⟩ = some (.bool p.2.2) := hBlk.cell rfl
                        have co1 : V.cell? ⟨wr.heap.size, 0, none⟩ = some (.string v1) := hbV1.cell rfl
                        have co2 : V.cell? ⟨wr.heap.size + 1, 0, none⟩ = some (.string v2) := hbV2.cell rfl
                        clear hpre hgiv hv132 hv232 hp32 hv1 hv2 hGL hpW
                        have hBne1 : B ≠ wr.heap.size := by omega
                        have hBne2 : B ≠ wr.heap.size + 1 := by omega
                        by_cases hp2 : p.2.2 = true
                        · rw [hp2] at cb1
                          simp only [boxAct, pairS]
                          simp
                          gi_wp2_with fail
                          refine ⟨trivial, ?_⟩
                          have HJ := Lib.hid (join_walk p.2.1 true v1 hsz1 V (HGL.out V hgr))
                          refine CallsIn.mono (CallsIn.inRound l' ((callsIn_wide (n := 2)).2 HJ.out)) ?_
                          rintro e W3 ⟨rfl, hb3⟩
                          have hb13 := hbV1.belowS hb3
                          have hb23 := hbV2.belowS hb3
                          have hB3 := hBlk.belowS hb3
                          have hg3 : V.grownBy (W3.setCell ⟨wr.heap.size, 0, none⟩ (.string (joinS (p.2.1, true) v1))) (some wr.heap.size) := grown_trans (below_grown (B := 0) hb3 _) (grown_setCells (b := wr.heap.size) [_] 0 W3)
                          have hgr3 := hgr.trans (Two.one (O2 := wr.heap.size + 1) hg3)
                          have hb14 := hb13.set 0 (.string (joinS (p.2.1, true) v1))
                          have hb24 := hb23.set_other ⟨wr.heap.size, 0, none⟩ (by simp) (.string (joinS (p.2.1, true) v1))
                          have hB4 := hB3.set_other ⟨wr.heap.size, 0, none⟩ hBne1 (.string (joinS (p.2.1, true) v1))
                          have cb30 : (W3.setCell ⟨wr.heap.size, 0, none⟩ (.string (joinS (p.2.1, true) v1))).cell? ⟨B, 0, none⟩ = some (.string p.2.1) := hB4.cell rfl
                          have cb31 : (W3.setCell ⟨wr.heap.size, 0, none⟩ (.string (joinS (p.2.1, true) v1))).cell? ⟨B, 1, none⟩ = some (.bool true) := hB4.cell (by rw [← hp2]; rfl)
                          have co32 : (W3.setCell ⟨wr.heap.size, 0, none⟩ (.string (joinS (p.2.1, true) v1))).cell? ⟨wr.heap.size + 1, 0, none⟩ = some (.string v2) := hb24.cell rfl
                          have co31 : W3.cell? ⟨wr.heap.size, 0, none⟩ = some (.string v1) := hb13.cell rfl
                          have cf3 := hb13.free 0
                          gi_wp2_with fail
                          refine ⟨trivial, ?_⟩
                          have HJ2 := Lib.hid (join_walk p.2.1 true v2 hsz2 _ (HGL.out _ hgr3))
                          refine CallsIn.mono (CallsIn.inRound l' ((callsIn_wide (n := 2)).2 HJ2.out)) ?_
                          rintro e W5 ⟨rfl, hb5⟩
                          have hb15 := hb14.belowS hb5
                          have hb25 := hb24.belowS hb5
                          have co52 : W5.cell? ⟨wr.heap.size + 1, 0, none⟩ = some (.string v2) := hb25.cell rfl
                          have cf5 := hb25.free 0
                          have hg5 : (W3.setCell ⟨wr.heap.size, 0, none⟩ (.string (joinS (p.2.1, true) v1))).grownBy (W5.setCell ⟨wr.heap.size + 1, 0, none⟩ (.string (joinS (p.2.1, true) v2))) (some (wr.heap.size + 1)) := grown_trans (below_grown (B := 0) hb5 _) (grown_setCells (b := wr.heap.size + 1) [_] 0 W5)
                          have hgr5 := (Two.one (O2 := wr.heap.size + 1) hg3).trans (Two.two (O1 := wr.heap.size) hg5)
                          gi_wp2
                          refine ⟨keeps_two hgr5 (by omega) (by omega), ?_, ?_, ?_, hgr.trans hgr5⟩
                          · intro k' hk'
                            exact hgr5.block k' (by have := hgr.size; omega) hk'.2.1 hk'.2.2
                          · rw [valF_snoc, HVV.out.1]
                            have ej : joinF p.2 v1 = joinS (p.2.1, true) v1 := by unfold joinF; rw [if_pos hp2, ← hp2]
                            rw [ej]
                            exact hb15.set_other ⟨wr.heap.size + 1, 0, none⟩ (by simp) _
                          · rw [valS_snoc, HVV.out.2]
                            have ej : joinS p.2 v2 = joinS (p.2.1, true) v2 := by rw [← hp2]
                            rw [ej]
                            exact hb25.set 0 _
                        · have hp2' : p.2.2 = false := by simpa using hp2
                          rw [hp2'] at cb1
                          simp only [boxAct, pairS]
                          simp
                          gi_wp2_with fail
                          refine ⟨trivial, ?_⟩
                          have HJ := Lib.hid (join_walk p.2.1 false v2 hsz2 V (HGL.out V hgr))
                          refine CallsIn.mono (CallsIn.inRound l' ((callsIn_wide (n := 2)).2 HJ.out)) ?_
                          rintro e W3 ⟨rfl, hb3⟩
                          have hb13 := hbV1.belowS hb3
                          have hb23 := hbV2.belowS hb3
                          have hg3 : V.grownBy (W3.setCell ⟨wr.heap.size + 1, 0, none⟩ (.string (joinS (p.2.1, false) v2))) (some (wr.heap.size + 1)) := grown_trans (below_grown (B := 0) hb3 _) (grown_setCells (b := wr.heap.size + 1) [_] 0 W3)
                          have hgr3 := Two.two (O1 := wr.heap.size) hg3
                          have co31 : W3.cell? ⟨wr.heap.size + 1, 0, none⟩ = some (.string v2) := hb23.cell rfl
                          have cf3 := hb23.free 0
                          gi_wp2
                          refine ⟨keeps_two hgr3 (by omega) (by omega), ?_, ?_, ?_, hgr.trans hgr3⟩
                          · intro k' hk'
                            exact hgr3.block k' (by have := hgr.size; omega) hk'.2.1 hk'.2.2
                          · rw [valF_snoc, HVV.out.1]
                            have ej : joinF p.2 v1 = v1 := by unfold joinF; rw [if_neg hp2]
                            rw [ej]
                            exact hb13.set_other ⟨wr.heap.size + 1, 0, none⟩ (by simp) _
                          · rw [valS_snoc, HVV.out.2]
                            have ej : joinS p.2 v2 = joinS (p.2.1, false) v2 := by rw [← hp2']
                            rw [ej]
                            exact hb23.set 0 _
                      case done =>
                        rintro D V hD ⟨hbV1, hbV2, hgr⟩ hK
                        rw [valF_all] at hbV1
                        rw [valS_all] at hbV2
                        obtain ⟨v1, hv1⟩ : ∃ v, W.foldr joinF x = v := ⟨_, rfl⟩
                        obtain ⟨v2, hv2⟩ : ∃ v, W.foldr joinS x = v := ⟨_, rfl⟩
                        rw [hv1] at hbV1
                        rw [hv2] at hbV2
                        have co1 : V.cell? ⟨wr.heap.size, 0, none⟩ = some (.string v1) := hbV1.cell rfl
                        have co2 : V.cell? ⟨wr.heap.size + 1, 0, none⟩ = some (.string v2) := hbV2.cell rfl
                        have HVV := Lib.hid (And.intro hv1 hv2)
                        clear hv1 hv2 hgiv
                        by_cases h1 : v1 = old
                        · have ds1 : (v1.toList == old.toList) = true := by rw [h1]; simp
                          have H1 := Lib.hid h1
                          clear h1
                          go_wp2
                          refine ⟨by simp, .inl ⟨_, _, rfl, run_takeDeferred hK, ?_⟩⟩
                          have hgs := hgr.size
                          refine ⟨_, results_tmp rfl _ _ _, ?_, ?_⟩
                          · rw [HV.out.1, HV1.out]
                            have hnil : (l.take 1).reverse = [x] := by
                                have := HX.out
                                rw [List.take_add_one, this]
                                rfl
                            rw [hnil]
                            show Ending.returned (.bool (v2.toList == root.toList)) = _
                            rw [str_eq, ← HVV.out.2]
                            simp [HVV.out.1, H1.out]
                          · have b2 : Below w.heap.size w V := hgr.toBelow HGW.out.2 (by omega) (by omega) (by omega)
                            exact b2.trans (belowK_b (w := w) (Nat.le_refl _) V D _ _ (by omega) hK rfl rfl)
                        · have ds1 : (v1.toList == old.toList) = false := by rw [str_eq]; exact decide_eq_false h1
                          have H1 := Lib.hid h1
                          clear h1
                          go_wp2
                          refine ⟨by simp, .inl ⟨_, _, rfl, run_takeDeferred hK, ?_⟩⟩
                          have hgs := hgr.size
                          refine ⟨_, results_tmp rfl _ _ _, ?_, ?_⟩
                          · rw [HV.out.1, HV1.out]
                            have hnil : (l.take 1).reverse = [x] := by
                                have := HX.out
                                rw [List.take_add_one, this]
                                rfl
                            rw [hnil]
                            simp [HVV.out.1, H1.out]
                          · have b2 : Below w.heap.size w V := hgr.toBelow HGW.out.2 (by omega) (by omega) (by omega)
                            exact b2.trans (belowK_b (w := w) (Nat.le_refl _) V D _ _ (by omega) hK rfl rfl)
                    · have dj : ((j : Int) != 1) = true := by simp; omega
                      have HJ1 := Lib.hid hj1
                      clear hj1
                      go_wp2_with (first | fail)
                      refine ⟨_, results_tmp rfl _ _ _, ?_, ?_⟩
                      · rw [HV.out.1, HV1.out]
                        have hne : ∀ x, ¬ (l.take j).reverse = [x] := by
                          intro x h
                          have := congrArg List.length h
                          rw [List.length_reverse, List.length_take, HLR.out.1] at this
                          have := HJ1.out
                          simp at *
                          omega
                        split
                        · rename_i x h
                          exact absurd h (hne x)
                        · rfl
                      · exact ((hbel.alloc (by omega) _).alloc (by simp; omega) _)
        · have er : ((root.size : Int) == 32) = false := by simp; omega
          have hv : extB old m root n l = false := by unfold extB dig32; simp [hrt]
          have HV := Lib.hid (And.intro hv h32)
          clear hv h32 ho hrt
          refine calls_of_wp_marks Tryd.func23 rfl ?_
          simp only [Tryd.ntmps23, List.size_toArray, List.length_cons, List.length_nil, Nat.reduceAdd, Nat.reduceSub, Array.replicate_succ, Array.replicate_zero, List.push_toArray, List.append_toArray, List.nil_append, List.cons_append]
          go_wp2_with (first | (go_at_call 45; have hq := HALL.out _ HR.out; rw [HV.out.2] at hq; refine hq.mono ?_; rintro e w' ⟨rfl, hw'⟩; obtain rfl := hw'.symm) | (go_at_call 51; refine (isDigest_walk old ho1 _).mono ?_; rintro e w' ⟨rfl, hw'⟩; obtain rfl := hw'.symm) | (go_at_call 51; refine (isDigest_walk root hr1 _).mono ?_; rintro e w' ⟨rfl, hw'⟩; obtain rfl := hw'.symm) | fail)
          refine ⟨_, results_tmp rfl _ _ _, ?_, Below.refl _ _⟩
          rw [HV.out.1]
          rfl
      · have eo : ((old.size : Int) == 32) = false := by simp; omega
        have hv : extB old m root n l = false := by unfold extB; simp [dig32, ho]
        have HV := Lib.hid (And.intro hv h32)
        clear hv h32 ho
        refine calls_of_wp_marks Tryd.func23 rfl ?_
        simp only [Tryd.ntmps23, List.size_toArray, List.length_cons, List.length_nil, Nat.reduceAdd, Nat.reduceSub, Array.replicate_succ, Array.replicate_zero, List.push_toArray, List.append_toArray, List.nil_append, List.cons_append]
        go_wp2_with (first | (go_at_call 45; have hq := HALL.out _ HR.out; rw [HV.out.2] at hq; refine hq.mono ?_; rintro e w' ⟨rfl, hw'⟩; obtain rfl := hw'.symm) | (go_at_call 51; refine (isDigest_walk old ho1 _).mono ?_; rintro e w' ⟨rfl, hw'⟩; obtain rfl := hw'.symm) | (go_at_call 51; refine (isDigest_walk root hr1 _).mono ?_; rintro e w' ⟨rfl, hw'⟩; obtain rfl := hw'.symm) | fail)
        refine ⟨_, results_tmp rfl _ _ _, ?_, Below.refl _ _⟩
        rw [HV.out.1]
        rfl
    · have hv : extB old m root n l = false := by unfold extB; simp [h32]
      have h32' : l.all dig32 = false := by simpa using h32
      have HV := Lib.hid (And.intro hv h32')
      clear hv h32 h32'
      refine calls_of_wp_marks Tryd.func23 rfl ?_
      simp only [Tryd.ntmps23, List.size_toArray, List.length_cons, List.length_nil, Nat.reduceAdd, Nat.reduceSub, Array.replicate_succ, Array.replicate_zero, List.push_toArray, List.append_toArray, List.nil_append, List.cons_append]
      go_wp2_with (first | (go_at_call 45; have hq := HALL.out _ HR.out; rw [HV.out.2] at hq; refine hq.mono ?_; rintro e w' ⟨rfl, hw'⟩; obtain rfl := hw'.symm) | (go_at_call 51; refine (isDigest_walk old ho1 _).mono ?_; rintro e w' ⟨rfl, hw'⟩; obtain rfl := hw'.symm) | (go_at_call 51; refine (isDigest_walk root hr1 _).mono ?_; rintro e w' ⟨rfl, hw'⟩; obtain rfl := hw'.symm) | fail)
      refine ⟨_, results_tmp rfl _ _ _, ?_, Below.refl _ _⟩
      rw [HV.out.1]
      rfl
  · have hv : extB old m root n l = false := by unfold extB; simp [hin]
    have HV := Lib.hid (And.intro hv trivial)
    clear hv
    by_cases h0 : m < 0
    · have d1 : decide (m < 0) = true := decide_eq_true h0
      refine calls_of_wp_marks Tryd.func23 rfl ?_
      simp only [Tryd.ntmps23, List.size_toArray, List.length_cons, List.length_nil, Nat.reduceAdd, Nat.reduceSub, Array.replicate_succ, Array.replicate_zero, List.push_toArray, List.append_toArray, List.nil_append, List.cons_append]
      go_wp2
      refine ⟨_, results_tmp rfl _ _ _, ?_, Below.refl _ _⟩
      rw [HV.out.1]
      rfl
    · have d1 : decide (m < 0) = false := decide_eq_false h0
      have d2 : decide (n < m) = true := decide_eq_true (by omega)
      refine calls_of_wp_marks Tryd.func23 rfl ?_
      simp only [Tryd.ntmps23, List.size_toArray, List.length_cons, List.length_nil, Nat.reduceAdd, Nat.reduceSub, Array.replicate_succ, Array.replicate_zero, List.push_toArray, List.append_toArray, List.nil_append, List.cons_append]
      go_wp2
      refine ⟨_, results_tmp rfl _ _ _, ?_, Below.refl _ _⟩
      rw [HV.out.1]
      rfl
end Go.Proofs.YtlmlimihgohchaaDoor.Ext
end
