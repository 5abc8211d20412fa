import Derived.Test.YtlmlimihgohchaaDoorYSide
import Derived.Test.YtlmlimihgohchaaDoorYAll
import Derived.Test.YtlmlimihgohchaaDoorYLeft
/-
  Texts of this claim, one behind the other: what they prove stands above each.
-/
section
/-
  The walk of Verify.
-/
namespace Go.Proofs.YtlmlimihgohchaaDoor.Ext
open Go.RowKit Go.Shelf Go.Proofs.YtlmlimihgohchaaDoorW.PrintWords Go.Proofs.YtlmlimihgohchaaDoorW.PrintLast Go.Proofs.YtlmlimihgohchaaDoorW.PrintMore
set_option linter.unusedVariables false
set_option linter.unusedSimpArgs false
attribute [local go_sem] Oper.semAt_some
attribute [local go_sem ↓] Go.wp_at_zero Go.wp_at_succ
def sideCells (W : List (ByteArray × Bool)) : List Value := W.flatMap fun x => [.string x.1, .bool x.2]
theorem sideCells_snoc (W : List (ByteArray × Bool)) (x : ByteArray × Bool) : sideCells (W ++ [x]) = sideCells W ++ [.string x.1, .bool x.2] := by simp [sideCells]
theorem sideCells_get (W : List (ByteArray × Bool)) : ∀ (j : Nat) (x : ByteArray × Bool), W[j]? = some x → (sideCells W)[j * 2]? = some (.string x.1) ∧ (sideCells W)[j * 2 + 1]? = some (.bool x.2) := by
  induction W with
  | nil => intro j x h; simp at h
  | cons y W ih =>
    intro j x h
    match j, h with
    | 0, h => simp at h; subst h; exact ⟨rfl, rfl⟩
    | j + 1, h =>
      simp at h
      have := ih j x h
      rw [show (j + 1) * 2 = j * 2 + 1 + 1 by omega]
      simpa [sideCells] using this
theorem news_new (W : World) (c : Array Value) (t : TypeId) (n : Nat) (l : List Value) (hc : c = l.toArray) (hn : W.heap.size = n) : ∀ (j : Nat) (u : Value), l[j]? = some u → (W.alloc (.cells c t)).cell? ((⟨n, 0, none⟩ : Addr).add j) = some u := by
  intro j u hj
  subst hc
  rw [Addr.add_mid, Nat.zero_add]
  exact c_new _ _ _ _ _ _ (by simpa using hj) hn
theorem own_dN {w : World} {N e size n : Nat} {v : Value} {xs : List Value} (h : w.ownsRow N e size v n xs) (m : Nat) : (w.drewN m).ownsRow N e size v n xs := h
theorem GivesAllK.mono {α : Type} {F : Fence} {n : Nat} {P : Program} {g : Nat} {lb : Array Value} {encs : α → Array Value} {xs : List α} {KS KS' : Nat → Prop} {w : World} (h : GivesAllK F n P g lb encs xs KS w) (hk : ∀ k, KS k → KS' k) : GivesAllK F n P g lb encs xs KS' w :=
  fun l J W hb hJ hY h0 => h l J W hb hJ (fun pre x W1 h1 h2 => by
    obtain ⟨fn, tmps, assign, body, hy, hR⟩ := hY pre x W1 h1 h2
    exact ⟨fn, tmps, assign, body, hy, hR.mono (fun e W' ⟨a, b, c⟩ => ⟨a, b, fun k hk' => c k (hk k hk')⟩)⟩) h0
set_option maxHeartbeats 1000000 in
theorem backS0_gives (B c : Nat) (A : Option Addr) (w : World) (hB : Blk w B 54 [.slice A 0 c]) :
    GivesAllK Fence.wide 4 Tryd.prog 63 #[.pointer (some ⟨B, 0, none⟩)] pairS [] (fun k => k = B) w := fun l J W hW hJ hY h0 => by
  have hBW := hB.belowS hW
  refine callsIn_of_wp Tryd.func63 rfl trivial ?_ rfl
  simp only [Tryd.ntmps63, List.size_toArray, List.length_cons, List.length_nil, Nat.reduceAdd, Nat.reduceSub, Array.replicate_succ, Array.replicate_zero, List.push_toArray, List.append_toArray, List.nil_append, List.cons_append]
  have c00 : W.cell? ⟨B, 0, none⟩ = some (.slice A 0 c) := hBW.cell rfl
  gi_wp2
  gi_loopw [3] (fun i wr => i = .int .i64 (-1) ∧ J [] wr) (fun i wr => 0)
  case atStart => exact ⟨rfl, h0⟩
  case round =>
    obtain ⟨rfl, hJj⟩ := hrel
    gi_wp2
    go_end0
    exact ⟨⟨_, rfl⟩, hJj⟩
def valS (o : ByteArray) (pre : List (Nat × (ByteArray × Bool))) : ByteArray := (pre.map (·.2)).foldl (fun o x => joinS x o) o
theorem valS_snoc (o : ByteArray) (pre : List (Nat × (ByteArray × Bool))) (p : Nat × (ByteArray × Bool)) : valS o (pre ++ [p]) = joinS p.2 (valS o pre) := by simp [valS]
theorem joinS_size (x : ByteArray × Bool) (o : ByteArray) : (joinS x o).size = 32 := by unfold joinS; split <;> exact hash_size _
theorem valS_size (o : ByteArray) (ho : o.size = 32) (pre : List (Nat × (ByteArray × Bool))) : (valS o pre).size = 32 := by
  rcases List.eq_nil_or_concat pre with rfl | ⟨l, p, rfl⟩
  · exact ho
  · rw [List.concat_eq_append, valS_snoc]; exact joinS_size _ _
theorem valS_all (o : ByteArray) (W : List (ByteArray × Bool)) (d : ByteArray × Bool) : valS o (backs d W) = W.foldr joinS o := by
  unfold valS
  rw [backs_snd, List.foldl_reverse]
/-- what the iterator over the steps gives -/
theorem side_gives {w : World} {N n : Nat} {v : Value} {W : List (ByteArray × Bool)} (hn : W.length = n) (hn2 : n < 1000000000) (h : w.ownsRow N 58 2 v n (sideCells W)) (W0 : World) (B O : Nat) (hB : Blk W0 B 54 [v]) (hBO : B ≠ O) (hO : w.heap.size ≤ O) (hb : Below w.heap.size w W0) :
    GivesAllK Fence.wide 4 Tryd.prog 63 #[.pointer (some ⟨B, 0, none⟩)] pairS (backs (⟨#[]⟩, false) W) (fun k => k < W0.heap.size ∧ k ≠ O) W0 := by
  have hBlt := hB.lt
  rcases h.2 with ⟨rfl, h0⟩ | ⟨g, cap, cur, rfl, hg, hh, hnc, _, _, ht⟩
  · have hW : W = [] := List.eq_nil_of_length_eq_zero (by rw [hn]; exact h0)
    subst hW
    exact (backS0_gives B 0 none W0 hB).mono (fun k hk => by subst hk; exact ⟨hBlt, hBO⟩)
  · have hC : Blk W0 g 58 cur.toList := by
      have h1 : Blk w g 58 cur.toList := by simpa [Blk] using hh
      exact h1.belowS hb
    have hgw : g < w.heap.size := (Array.getElem?_eq_some_iff.1 hh).1
    refine (backS1_gives B g n cap 58 W hn hn2 cur.toList ?_ W0 hB hC).mono (fun k hk => ?_)
    · intro j x hj
      have hjn : j < n := by rw [← hn]; exact (List.getElem?_eq_some_iff.1 hj).1
      have := sideCells_get W j x hj
      rw [← ht, List.getElem?_take, List.getElem?_take, if_pos (by omega), if_pos (by omega)] at this
      exact this
    · rcases hk with rfl | rfl
      · exact ⟨hBlt, hBO⟩
      · exact ⟨hC.lt, by omega⟩
theorem str_eq (a b : ByteArray) : (a.toList == b.toList) = decide (a = b) := by
  rw [ByteArray.toList_eq, ByteArray.toList_eq]
  by_cases h : a = b
  · subst h; simp
  · rw [decide_eq_false h, beq_eq_false_iff_ne]
    exact fun e => h (ba_ext e)
theorem info58 : (Tryd.prog.info? 58).map (fun i => (i.zero, i.size, i.bytes)) = some (some (.agg #[.string ⟨#[]⟩, .bool false]), 2, 24) := by kernel_rfl
def verifyB (root : ByteArray) (n i : Int) (s : ByteArray) (l : List ByteArray) : Bool := decide (0 ≤ i ∧ i < n) && (l.all dig32 && decide (Tree.value dL dN n.toNat i.toNat s l.reverse = some root))
set_option maxRecDepth 100000 in
set_option maxHeartbeats 1000000 in
theorem Verify_walk (root : ByteArray) (n i : Int) (s : ByteArray) (A : Option Addr) (c : Nat) (l : List ByteArray) (w : World) (hG : GL w) (hr : Kd.C Kd.string w A l.length l) (hc : l.length ≤ c) (hln : l.length ≤ 1000000) (hls : ∀ x ∈ l, x.size ≤ 9223372036854775807)
    (hn0 : -9223372036854775808 ≤ n) (hn1 : n ≤ 9223372036854775807) (hi0 : -9223372036854775808 ≤ i) (hi1 : i ≤ 9223372036854775807) (hs : s.size ≤ 140737488349000) :
    Calls Tryd.prog 21 #[.string root, .int .i64 n, .int .i64 i, .string s, .slice A l.length c] w fun e w' => e = .returned (.bool (verifyB root n i s l)) ∧ Below w.heap.size w w' := by
  have hall := fun W hW => all_walk A c l W hW hc hln hls
  have HALL := Lib.hid hall
  have HR := Lib.hid hr
  have HG := Lib.hid hG
  have HS := Lib.hid hls
  clear hall hr hG hls
  by_cases hin : 0 ≤ i ∧ i < n
  · have d1 : decide (i < 0) = false := decide_eq_false (by omega)
    have d2 : decide (n ≤ i) = false := decide_eq_false (by omega)
    by_cases h32 : l.all dig32 = true
    · obtain ⟨N0, rfl⟩ := Int.eq_ofNat_of_zero_le (show 0 ≤ n by omega)
      obtain ⟨I0, rfl⟩ := Int.eq_ofNat_of_zero_le hin.1
      have hv : verifyB root (N0 : Int) (I0 : Int) s l = decide (Tree.value dL dN N0 I0 s l.reverse = some root) := by unfold verifyB; simp [hin, h32]
      have HV := Lib.hid (And.intro hv h32)
      clear hv
      have hIN : I0 < N0 := by omega
      have d2' : decide (N0 ≤ I0) = false := decide_eq_false (by omega)
      have hds : ∀ x ∈ l, x.size = 32 := fun x hx => by have := List.all_eq_true.1 h32 x hx; simpa [dig32] using this
      have HDS := Lib.hid hds
      clear hds h32 hin
      obtain ⟨L, hL⟩ : ∃ L, l.length = L := ⟨_, rfl⟩
      have hlr := HR.out
      rw [hL] at hlr hc hln ⊢
      have HLR := Lib.hid (And.intro hL hlr)
      clear hL hlr
      obtain ⟨i0, hi, hz0, hz1, hz2⟩ := info_parts info58
      refine calls_of_wp_marks Tryd.func21 rfl ?_
      simp only [Tryd.ntmps21, List.size_toArray, List.length_cons, List.length_nil, Nat.reduceAdd, Nat.reduceSub, Array.replicate_succ, Array.replicate_zero, List.push_toArray, List.append_toArray, List.nil_append, List.cons_append]
      go_wp2_with (first | (go_at_call 45; have hq := HALL.out _ HR.out; rw [HLR.out.1, HV.out.2] at hq; refine hq.mono ?_; rintro e w' ⟨rfl, hw'⟩; obtain rfl := hw'.symm) | fail)
      go_loopw [1, 2, 4, 11] (fun vn vi vp vw wr => ∃ (n' i' m : Nat) (W : List (ByteArray × Bool)), vn = .int .i64 (n' : Int) ∧ vi = .int .i64 (i' : Int) ∧ vp = .slice A m c ∧ m ≤ L ∧ i' < n' ∧ n' ≤ N0 ∧ W.length + m = L ∧ Hid (wr.ownsRow w.heap.size 58 2 vw W.length (sideCells W)) ∧ Hid (∀ x ∈ W, x.1.size = 32) ∧ Hid (Tree.value dL dN N0 I0 s l.reverse = (Tree.value dL dN n' i' s (l.take m).reverse).map (fun v => W.foldr joinS v)) ∧ Below w.heap.size w wr) (fun vn vi vp vw wr => lenOf vp)
      case atStart => exact ⟨N0, I0, L, [], rfl, rfl, rfl, Nat.le_refl _, hIN, Nat.le_refl _, by simp, Lib.hid (World.ownsRow_nil _ _ _ _), Lib.hid (by simp), Lib.hid (by rw [List.take_of_length_le (by rw [HLR.out.1]; exact Nat.le_refl _)]; simp), Below.refl _ _⟩
      case round =>
        obtain ⟨n', i', m, W, rfl, rfl, rfl, hmL, hin', hnN, hWm, hown, hw32, hval, hbel⟩ := hrel
        by_cases hn' : n' = 1
        · subst hn'
          have hi0 : i' = 0 := by omega
          subst hi0
          have d3 : decide ((1 : Int) < ((1 : Nat) : Int)) = false := by decide
          have hv1 := hval.out
          rw [Tree.value_one] at hv1
          have HV1 := Lib.hid hv1
          clear hv1
          obtain ⟨q, hq⟩ : ∃ q, W.length = q := ⟨_, rfl⟩
          have ho := hown.out
          rw [hq] at ho hWm
          have HO := Lib.hid ho
          have HQ := Lib.hid hq
          clear ho hq
          have hGr := HG.out.below hbel
          have HGR := Lib.hid hGr
          have hNr := hbel.size
          clear hGr
          obtain ⟨A', c', hvw⟩ : ∃ A' c', u11 = .slice A' q c' := by
            rcases HO.out.2 with ⟨h, h0⟩ | ⟨g, cap, cur, h, _⟩
            · exact ⟨none, 0, by rw [h, h0]⟩
            · exact ⟨_, _, h⟩
          subst hvw
          rw [show ((1 : Nat) : Int) = 1 from rfl]
          go_wp2_with (first | (go_at_call 29; refine (Leaf_walk s hs _ HGR.out).mono ?_; rintro e w1 ⟨rfl, hb1⟩) | (go_at_call 47; refine (backS_walk _ _ _ _).mono ?_; rintro e w9 ⟨rfl, rfl⟩) | fail)
          have hws1 := hb1.size
          have hown1 : w1.ownsRow w.heap.size 58 2 (.slice A' q c') q (sideCells W) := HO.out.kept (below_grown (B := 0) hb1 none) (by rcases hh : (Value.slice A' q c').ownBlock with _ | k; exact .inl rfl; exact .inr (by simp))
          have hB0 : Blk ((w1.alloc (.cells #[.string (dL s)] 9)).alloc (.cells #[.slice A' q c'] 54)) (w1.heap.size + 1) 54 [.slice A' q c'] := cast_blk (Blk.newA _ _ _ _ rfl) (by simp)
          have hO0 : Blk ((w1.alloc (.cells #[.string (dL s)] 9)).alloc (.cells #[.slice A' q c'] 54)) w1.heap.size 9 [.string (dL s)] := (Blk.newA _ _ _ _ rfl).alloc _
          have hsz0 : ((w1.alloc (.cells #[.string (dL s)] 9)).alloc (.cells #[.slice A' q c'] 54)).heap.size = w1.heap.size + 2 := by simp
          have hbW : Below w1.heap.size w1 ((w1.alloc (.cells #[.string (dL s)] 9)).alloc (.cells #[.slice A' q c'] 54)) := ((Below.refl _ _).alloc (Nat.le_refl _) _).alloc (by simp) _
          have hgiv := side_gives HQ.out (by omega) hown1 _ (w1.heap.size + 1) w1.heap.size hB0 (by omega) (Nat.le_refl _) hbW
          have hbWw : Below w.heap.size w ((w1.alloc (.cells #[.string (dL s)] 9)).alloc (.cells #[.slice A' q c'] 54)) := (hbel.trans (hb1.mono hNr)).trans (hbW.mono (by omega))
          have hGW0 := HG.out.below hbWw
          have HGW := Lib.hid (And.intro hGW0 hbWw)
          clear hGW0 hbWw hown1 hbW hB0
          generalize ((w1.alloc (.cells #[.string (dL s)] 9)).alloc (.cells #[.slice A' q c'] 54)) = W0 at *
          refine wp_rangeFunc_box (d := 18) (T := 58) (gf := 63) (lb := #[.pointer (some ⟨w1.heap.size + 1, 0, none⟩)]) rfl (enters_of Tryd.func63 (by kernel_rfl) rfl) (KS := fun k => k < W0.heap.size ∧ k ≠ w1.heap.size) (fun k hk => hk.1) hgiv (Below.refl _ _) (fun _ => rfl)
            (fun p => [.string p.2.1, .bool p.2.2]) ?assign (fun pre V => Blk V w1.heap.size 9 [.string (valS (dL s) pre)] ∧ W0.grownBy V (some w1.heap.size)) (OwnFrom.and (own_blk _ (by omega)) (own_grown _ (Nat.le_refl _))) ⟨hO0, ⟨rfl, rfl, rfl, Nat.le_refl _, fun _ _ _ => rfl⟩⟩ ?body ?done
          case assign =>
            intro l' p V K hK
            have hK' := Lib.hid hK
            clear hK hgiv
            simp only [pairS]
            gi_wp2
            have h := hK'.out
            simp [boxAct, pairS] at h
            exact h
          case body =>
            intro l' pre p B V hI hBlk hBs hpre
            obtain ⟨hbV, hgr⟩ := hI
            have hpW : p.2 ∈ W := by
              have h1 : p ∈ backs (⟨#[]⟩, false) W := hpre.subset (by simp)
              have h2 : p.2 ∈ (backs (⟨#[]⟩, false) W).map (·.2) := List.mem_map.2 ⟨p, h1, rfl⟩
              rw [backs_snd, List.mem_reverse] at h2
              exact h2
            have hp32 := hw32.out p.2 hpW
            have hv32 := valS_size (dL s) (hash_size _) pre
            obtain ⟨v, hv⟩ : ∃ v, valS (dL s) pre = v := ⟨_, rfl⟩
            rw [hv] at hbV hv32
            have HVV := Lib.hid hv
            have hsz2 : p.2.1.size + v.size ≤ 140737488349000 := by omega
            have hGV : GL V := by
              intro i hi'
              have h0 := HGW.out.1 i hi'
              have hlt := World.block_lt_of_cell? W0 _ h0
              have hlw := World.block_lt_of_cell? w _ (HG.out i hi')
              have h1 := hgr.block 0 (by simpa using hlt) (fun e => by injection e with e; simp only at hlw; omega)
              rw [World.cell?_of_block (a := ⟨0, i, none⟩) h1]
              exact h0
            have HJ := Lib.hid (join_walk p.2.1 p.2.2 v hsz2 V hGV)
            have co : V.cell? ⟨w1.heap.size, 0, none⟩ = some (.string v) := hbV.cell rfl
            have cb0 : V.cell? ⟨B, 0, none⟩ = some (.string p.2.1) := hBlk.cell rfl
            have cb1 : V.cell? ⟨B, 1, none⟩ = some (.bool p.2.2) := hBlk.cell rfl
            clear hpre hgiv hv32 hp32 hv hGV hpW
            simp only [boxAct, pairS]
            simp
            gi_wp2_with fail
            refine ⟨trivial, ?_⟩
            refine CallsIn.mono (CallsIn.inRound l' ((callsIn_wide (n := 2)).2 HJ.out)) ?_
            rintro e W3 ⟨rfl, hb3⟩
            have hbW3 : Blk W3 w1.heap.size 9 [.string v] := hbV.belowS hb3
            have co3 : W3.cell? ⟨w1.heap.size, 0, none⟩ = some (.string v) := hbW3.cell rfl
            have cf3 := hbW3.free 0
            gi_wp2
            have hg3' : V.grownBy (W3.setCell ⟨w1.heap.size, 0, none⟩ (.string (joinS (p.2.1, p.2.2) v))) (some w1.heap.size) := grown_trans (below_grown (B := 0) hb3 _) (grown_setCells (b := w1.heap.size) [_] 0 W3)
            refine ⟨keeps_grown hg3' (by omega), ?_, ?_, grown_trans hgr hg3'⟩
            · intro k' hk'
              exact hg3'.block k' (by have := hgr.size; omega) (fun e => by injection e with e; exact hk'.2 e)
            · rw [valS_snoc, HVV.out]
              exact hbW3.set 0 _
          case done =>
            rintro D V hD ⟨hbV, hgr⟩ hK
            rw [valS_all] at hbV
            obtain ⟨v, hv⟩ : ∃ v, W.foldr joinS (dL s) = v := ⟨_, rfl⟩
            rw [hv] at hbV
            have co : V.cell? ⟨w1.heap.size, 0, none⟩ = some (.string v) := hbV.cell rfl
            have HVV := Lib.hid hv
            clear hv hgiv
            by_cases hm0 : m = 0
            · have dm : ((m : Int) == 0) = true := by simp [hm0]
              have HM0 := Lib.hid hm0
              clear hm0
              go_wp2
              refine ⟨by simp, .inl ⟨_, _, rfl, run_takeDeferred hK, ?_⟩⟩
              have hgs := hgr.size
              have hws2 := HGW.out.2.size
              refine ⟨_, results_tmp rfl _ _ _, ?_, ?_⟩
              · rw [HV.out.1, HV1.out]
                have hnil : (l.take m).reverse = [] := by rw [HM0.out]; rfl
                rw [if_pos hnil]
                show Ending.returned (.bool (v.toList == root.toList)) = _
                rw [str_eq, ← HVV.out]
                simp
              · have b2 : Below w.heap.size w V := grown_below hgr HGW.out.2 (by omega) (by omega)
                exact b2.trans (belowK_b (w := w) (Nat.le_refl _) V D _ _ (by omega) hK rfl rfl)
            · have dm : ((m : Int) == 0) = false := by simp; omega
              have HM0 := Lib.hid hm0
              clear hm0
              go_wp2
              refine ⟨by simp, .inl ⟨_, _, rfl, run_takeDeferred hK, ?_⟩⟩
              have hgs := hgr.size
              have hws2 := HGW.out.2.size
              refine ⟨_, results_tmp rfl _ _ _, ?_, ?_⟩
              · rw [HV.out.1, HV1.out]
                have hnil : ¬ (l.take m).reverse = [] := by
                  intro h
                  have := congrArg List.length h
                  rw [List.length_reverse, List.length_take, HLR.out.1] at this
                  have := HM0.out
                  simp at *
                  omega
                rw [if_neg hnil]
                rfl
              · have b2 : Below w.heap.size w V := grown_below hgr HGW.out.2 (by omega) (by omega)
                exact b2.trans (belowK_b (w := w) (Nat.le_refl _) V D _ _ (by omega) hK rfl rfl)
        · have d3 : decide ((1 : Int) < (n' : Int)) = true := decide_eq_true (by omega)
          by_cases hm0 : m = 0
          · subst hm0
            have htk := take_walk A 0 c wr ⟨#[]⟩ (fun h => absurd h (by omega)) (by omega) (by omega)
            rw [if_pos rfl] at htk
            have HT := Lib.hid htk
            clear htk
            have hres : decide (Tree.value dL dN N0 I0 s l.reverse = some root) = false := by
              rw [hval.out, List.take_zero, List.reverse_nil, Tree.value_nil dL dN hn']
              simp
            have HRES := Lib.hid hres
            clear hres
            go_wp2_with (first | (go_at_call 46; refine (HT.out).mono ?_; rintro e w2 ⟨rfl, m2, rfl⟩) | fail)
            refine ⟨_, results_tmp rfl _ _ _, ?_, below_dN hbel m2⟩
            rw [HV.out.1, HRES.out]
            rfl
          · obtain ⟨x, hx⟩ : ∃ x, l[m - 1]? = some x := ⟨l[m - 1]'(by rw [HLR.out.1]; omega), List.getElem?_eq_getElem _⟩
            obtain ⟨ad, hA, _⟩ := HLR.out.2.2.2 (by omega)
            subst hA
            have hcell : wr.cell? (ad.add (m - 1)) = some (.string x) := by
              have h0 := strs_cell HLR.out.2 hx
              rw [hbel.cell (World.block_lt_of_cell? w _ h0)]
              exact h0
            have htk := take_walk (some ad) m c wr x (fun _ => ⟨ad, rfl, hcell⟩) (by omega) (by omega)
            rw [if_neg hm0] at htk
            have HT := Lib.hid htk
            obtain ⟨m1, hm1⟩ : ∃ m1, m = m1 + 1 := ⟨m - 1, by omega⟩
            subst hm1
            rw [Nat.add_sub_cancel] at hx
            have HX := Lib.hid hx
            clear htk hcell hx hm0
            obtain ⟨k, hk⟩ : ∃ k, Tree.left n' = k := ⟨_, rfl⟩
            have hkn : 0 < k ∧ k < n' := by rw [← hk]; exact ⟨Tree.left_pos _, Tree.left_lt (by omega)⟩
            have HK := Lib.hid hk
            clear hk
            have hstep : ∀ (b : Bool) (n2 i2 : Nat), (if b then k ≤ i' ∧ n2 = n' - k ∧ i2 = i' - k else i' < k ∧ n2 = k ∧ i2 = i') → Tree.value dL dN N0 I0 s l.reverse = (Tree.value dL dN n2 i2 s (l.take m1).reverse).map (fun v => (W ++ [(x, b)]).foldr joinS v) := by
              intro b n2 i2 hb
              rw [hval.out]
              have hrev : (l.take (m1 + 1)).reverse = x :: (l.take m1).reverse := by rw [List.take_add_one, HX.out]; simp
              rw [hrev]
              cases b with
              | true =>
                simp only [if_true] at hb
                obtain ⟨h1, rfl, rfl⟩ := hb
                rw [← HK.out, Tree.value_high dL dN hn' (by rw [HK.out]; exact h1), Option.map_map]
                congr 1
                funext v
                simp [joinS]
              | false =>
                simp only [Bool.false_eq_true, if_false] at hb
                obtain ⟨h1, rfl, rfl⟩ := hb
                rw [← HK.out, Tree.value_low dL dN hn' (by rw [HK.out]; exact h1), Option.map_map]
                congr 1
                funext v
                simp [joinS]
            have HST := Lib.hid hstep
            clear hstep
            have hkn1 := hkn.1
            have hkn2 := hkn.2
            clear hkn
            have hNr := hbel.size
            have hlf := fun W0 => left_walk n' (by omega) (by omega) W0
            have HLF := Lib.hid hlf
            clear hlf
            obtain ⟨q, hq⟩ : ∃ q, W.length = q := ⟨_, rfl⟩
            have ho := hown.out
            rw [hq] at ho hWm
            have HO := Lib.hid ho
            have HQ := Lib.hid hq
            clear ho hq
            by_cases hik : k ≤ i'
            · have d4 : decide ((k : Int) ≤ (i' : Int)) = true := decide_eq_true (by omega)
              go_wp2_with (first | (go_at_call 46; refine (HT.out).mono ?_; rintro e w2 ⟨rfl, m2, rfl⟩; have HO2 := Lib.hid (own_dN HO.out m2)) | (go_at_call 40; refine (HLF.out _).mono ?_; rintro e w2 ⟨he, hw2⟩; obtain rfl := hw2.symm; rw [HK.out] at he; subst he) | (at_builtin; refine wpList_append_own _ (by rfl) (.tmp 44) (.tmp 50) 54 (by rfl) w.heap.size 58 i0 _ 2 24 Tryd.underlying54 hi hz0 hz1 hz2 (by rfl) (by decide) u11 q (sideCells W) (by rfl) (HO2.out.alloc _) ⟨wr.heap.size, 0, none⟩ 1 1 [.string x, .bool true] (by rfl) rfl (news_new _ _ _ _ _ rfl rfl) (by simp [Value.oneCell']) (by unfold maxLen; omega) (by omega) (by simp; omega) ?_; intro v3' w3 hown3 hg3 hnil3) | fail)
              go_roundw
              case rel =>
                have hlen : (W ++ [(x, true)]).length = q + 1 := by rw [List.length_append, HQ.out, List.length_singleton]
                refine ⟨n' - k, i' - k, m1, W ++ [(x, true)], by congr 1; omega, by congr 1; omega, by simp, by omega, by omega, by omega, by rw [hlen]; omega, Lib.hid ?_, Lib.hid ?_, Lib.hid (HST.out true _ _ (by rw [if_pos rfl]; exact ⟨hik, rfl, rfl⟩)), ?_⟩
                · rw [hlen, sideCells_snoc]
                  exact hown3
                · intro y hy
                  rcases List.mem_append.1 hy with h | h
                  · exact hw32.out y h
                  · rw [List.mem_singleton] at h; rw [h]; exact HDS.out x (List.mem_of_getElem? HX.out)
                · exact Below.grown ((below_dN hbel m2).alloc (by simpa using hNr) _) hg3 (by simp; omega) (fun k hk => (HO2.out.lt k hk).1)
              case measure => simp [lenOf]
            · have d4 : decide ((k : Int) ≤ (i' : Int)) = false := decide_eq_false (by omega)
              go_wp2_with (first | (go_at_call 46; refine (HT.out).mono ?_; rintro e w2 ⟨rfl, m2, rfl⟩; have HO2 := Lib.hid (own_dN HO.out m2)) | (go_at_call 40; refine (HLF.out _).mono ?_; rintro e w2 ⟨he, hw2⟩; obtain rfl := hw2.symm; rw [HK.out] at he; subst he) | (at_builtin; refine wpList_append_own _ (by rfl) (.tmp 44) (.tmp 50) 54 (by rfl) w.heap.size 58 i0 _ 2 24 Tryd.underlying54 hi hz0 hz1 hz2 (by rfl) (by decide) u11 q (sideCells W) (by rfl) (HO2.out.alloc _) ⟨wr.heap.size, 0, none⟩ 1 1 [.string x, .bool false] (by rfl) rfl (news_new _ _ _ _ _ rfl rfl) (by simp [Value.oneCell']) (by unfold maxLen; omega) (by omega) (by simp; omega) ?_; intro v3' w3 hown3 hg3 hnil3) | fail)
              go_roundw
              case rel =>
                have hlen : (W ++ [(x, false)]).length = q + 1 := by rw [List.length_append, HQ.out, List.length_singleton]
                refine ⟨k, i', m1, W ++ [(x, false)], rfl, rfl, by simp, by omega, by omega, by omega, by rw [hlen]; omega, Lib.hid ?_, Lib.hid ?_, Lib.hid (HST.out false _ _ (by rw [if_neg (by simp)]; exact ⟨by omega, rfl, rfl⟩)), ?_⟩
                · rw [hlen, sideCells_snoc]
                  exact hown3
                · intro y hy
                  rcases List.mem_append.1 hy with h | h
                  · exact hw32.out y h
                  · rw [List.mem_singleton] at h; rw [h]; exact HDS.out x (List.mem_of_getElem? HX.out)
                · exact Below.grown ((below_dN hbel m2).alloc (by simpa using hNr) _) hg3 (by simp; omega) (fun k hk => (HO2.out.lt k hk).1)
              case measure => simp [lenOf]
    · have hv : verifyB root n i s l = false := by unfold verifyB; simp [h32]
      have h32' : l.all dig32 = false := by simpa using h32
      have HV := Lib.hid (And.intro hv h32')
      clear hv h32 h32'
      refine calls_of_wp_marks Tryd.func21 rfl ?_
      simp only [Tryd.ntmps21, List.size_toArray, List.length_cons, List.length_nil, Nat.reduceAdd, Nat.reduceSub, Array.replicate_succ, Array.replicate_zero, List.push_toArray, List.append_toArray, List.nil_append, List.cons_append]
      go_wp2_with (first | (go_at_call 45; refine (HALL.out _ HR.out).mono ?_; rintro e w' ⟨he, rfl⟩; rw [HV.out.2] at he; subst he) | fail)
      refine ⟨_, results_tmp rfl _ _ _, ?_, Below.refl _ _⟩
      rw [HV.out.1]
      rfl
  · have hv : verifyB root n i s l = false := by unfold verifyB; simp [hin]
    have HV := Lib.hid hv
    clear hv
    by_cases h0 : i < 0
    · have d1 : decide (i < 0) = true := decide_eq_true h0
      refine calls_of_wp_marks Tryd.func21 rfl ?_
      simp only [Tryd.ntmps21, List.size_toArray, List.length_cons, List.length_nil, Nat.reduceAdd, Nat.reduceSub, Array.replicate_succ, Array.replicate_zero, List.push_toArray, List.append_toArray, List.nil_append, List.cons_append]
      go_wp2
      refine ⟨_, results_tmp rfl _ _ _, ?_, Below.refl _ _⟩
      rw [HV.out]
      rfl
    · have d1 : decide (i < 0) = false := decide_eq_false h0
      have d2 : decide (n ≤ i) = true := decide_eq_true (by omega)
      refine calls_of_wp_marks Tryd.func21 rfl ?_
      simp only [Tryd.ntmps21, List.size_toArray, List.length_cons, List.length_nil, Nat.reduceAdd, Nat.reduceSub, Array.replicate_succ, Array.replicate_zero, List.push_toArray, List.append_toArray, List.nil_append, List.cons_append]
      go_wp2
      refine ⟨_, results_tmp rfl _ _ _, ?_, Below.refl _ _⟩
      rw [HV.out]
      rfl
end Go.Proofs.YtlmlimihgohchaaDoor.Ext
end
