import Derived.Test.YtlmlimihgohchaaDoorYRev
/-
  Texts of this claim, one behind the other: what they prove stands above each.
-/
section
/-
  The walk of Proof.
-/
namespace Go.Proofs.YtlmlimihgohchaaDoor.Ext
open Go.RowKit Go.Shelf Go.Proofs.YtlmlimihgohchaaDoorW.PrintWords Go.Proofs.YtlmlimihgohchaaDoorW.PrintLast Go.Proofs.YtlmlimihgohchaaDoorW.PrintMore
open Go.Proofs.YtlmlimihgohchaaDoor.PQ
set_option linter.unusedVariables false
set_option linter.unusedSimpArgs false
attribute [local go_sem] Oper.semAt_some
attribute [local go_sem ↓] Go.wp_at_zero Go.wp_at_succ
theorem strs_take {w : World} {A : Option Addr} {l : List ByteArray} (h : Kd.C Kd.string w A l.length l) (k : Nat) : Kd.C Kd.string w A (l.take k).length (l.take k) := by
  refine ⟨rfl, by have := h.2.1; simp; omega, fun hp => ?_⟩
  obtain ⟨ad, e, hc⟩ := h.2.2 (by simp at hp; omega)
  refine ⟨ad, e, fun j p hj => hc j p ?_⟩
  rw [List.getElem?_take] at hj
  split at hj
  · exact hj
  · cases hj
theorem strs_drop {w : World} {ad : Addr} {l : List ByteArray} (h : Kd.C Kd.string w (some ad) l.length l) (k : Nat) : Kd.C Kd.string w (some (ad.add k)) (l.drop k).length (l.drop k) := by
  refine ⟨rfl, by have := h.2.1; simp; omega, fun hp => ?_⟩
  obtain ⟨ad', e, hc⟩ := h.2.2 (by simp at hp; omega)
  injection e with e
  subst e
  refine ⟨_, rfl, fun j p hj => ?_⟩
  obtain ⟨c, h1, h2, h3⟩ := hc (k + j) p (by rw [List.getElem?_drop] at hj; exact hj)
  refine ⟨c, h1, h2, fun i u hu => ?_⟩
  rw [Addr.add_add]
  have := h3 i u hu
  have hs : Kd.sz Kd.string = 1 := rfl
  rw [hs] at this ⊢
  rw [show k + (j * 1 + i) = (k + j) * 1 + i by omega]
  exact this
theorem news_new1 (W : World) (c : Array Value) (t : TypeId) (n : Nat) (l : List Value) (hc : c = l.toArray) (hn : W.heap.size = n) : ∀ (j : Nat) (u : Value), l[j]? = some u → (W.alloc (.cells c t)).cell? ((⟨n, 0, none⟩ : Addr).add j) = some u := news_new W c t n l hc hn
def strV (l : List ByteArray) : List Value := l.map Value.string
theorem strV_snoc (l : List ByteArray) (x : ByteArray) : strV (l ++ [x]) = strV l ++ [.string x] := by simp [strV]
theorem R_of_own {w : World} {N : Nat} {v : Value} {l : List ByteArray} (h : w.ownsRow N 9 1 v l.length (strV l)) : Kd.R Kd.string 9 w N (fun _ => True) v l := by
  refine ⟨fun _ _ => trivial, strV l, h, ?_, fun j p hj => ?_⟩
  · show (strV l).length = l.length * 1
    simp [strV]
  · show ((strV l).drop (j * 1)).take 1 = [Value.string p]
    rw [Nat.mul_one, List.take_one, List.head?_drop]
    simp [strV, hj]
set_option maxRecDepth 100000 in
set_option maxHeartbeats 1000000 in
theorem Proof_walk (ad : Addr) (c : Nat) (l : List ByteArray) (i : Nat) (w : World) (hG : GL w) (hr : Kd.C Kd.string w (some ad) l.length l) (hc : l.length ≤ c) (hln : l.length ≤ 1000000) (hls : ∀ x ∈ l, x.size ≤ 140737488349000) (hi : i < l.length) :
    Calls Tryd.prog 14 #[.slice (some ad) l.length c, .int .i64 (i : Int)] w fun e w' => ∃ v, e = .returned (.tuple #[v, .int .i64 0]) ∧ Kd.R Kd.string 9 w' w.heap.size (fun _ => True) v (Tree.proofR dE dL dN l i).reverse ∧ Below w.heap.size w w' := by
  obtain ⟨i0, hi9, hz0, hz1, hz2⟩ := info_parts info9
  have HR := Lib.hid hr
  have HG := Lib.hid hG
  have HS := Lib.hid hls
  clear hr hG hls
  obtain ⟨L, hL⟩ : ∃ L, l.length = L := ⟨_, rfl⟩
  have hlr := HR.out
  rw [hL] at hlr hc hln hi ⊢
  have HLR := Lib.hid (And.intro hL hlr)
  clear hL hlr
  have d1 : decide ((i : Int) < 0) = false := decide_eq_false (by omega)
  have d2 : decide ((L : Int) ≤ (i : Int)) = false := decide_eq_false (by omega)
  have d2' : decide (L ≤ i) = false := decide_eq_false (by omega)
  go_enter Tryd.func14, Tryd.ntmps14
  go_wp2
  go_step3
  go_wp2
  refine wp_label ?_
  go_wp2
  go_loopw [0, 1, 6] (fun vl vi vo wr => ∃ (l' : List ByteArray) (i' : Nat) (ad' : Addr) (c' : Nat) (out : List ByteArray), vl = .slice (some ad') l'.length c' ∧ vi = .int .i64 (i' : Int) ∧ i' < l'.length ∧ l'.length ≤ c' ∧ out.length + l'.length ≤ L ∧ Hid (Kd.C Kd.string w (some ad') l'.length l') ∧ Hid (∀ x ∈ l', x.size ≤ 140737488349000) ∧ Hid (wr.ownsRow w.heap.size 9 1 vo out.length (strV out)) ∧ Hid (out ++ Tree.proofR dE dL dN l' i' = Tree.proofR dE dL dN l i) ∧ Below w.heap.size w wr) (fun vl vi vo wr => lenOf vl)
  case atStart => exact ⟨l, i, ad, c, [], by rw [HLR.out.1], rfl, by rw [HLR.out.1]; exact hi, by rw [HLR.out.1]; exact hc, by rw [HLR.out.1]; simp, HR, HS, Lib.hid (World.ownsRow_nil _ _ _ _), Lib.hid (by simp), Below.refl _ _⟩
  case round =>
    obtain ⟨l', i', ad', c', out, rfl, rfl, hi', hc', hol, hr', hs', hown, hval, hbel⟩ := hrel
    obtain ⟨m, hm⟩ : ∃ m, l'.length = m := ⟨_, rfl⟩
    obtain ⟨q, hq⟩ : ∃ q, out.length = q := ⟨_, rfl⟩
    have hr2 := hr'.out
    have ho := hown.out
    rw [hm] at hi' hc' hol hr2 ⊢
    rw [hq] at hol ho
    have HM := Lib.hid (And.intro hm hr2)
    have HQ := Lib.hid hq
    have HO := Lib.hid ho
    clear hm hq ho hr2
    have hNr := hbel.size
    by_cases h1 : m = 1
    · subst h1
      have d3 : (((1 : Nat) : Int) == 1) = true := by decide
      go_wp2_with (first | (go_at_call 41; refine (slices_Reverse_string_string.calls (out.length + 1) (fun _ => True) u6 out out.reverse w wr hbel (R_of_own hown.out) (rev_f out (by rw [HQ.out]; omega))).mono ?_; rintro e w2 ⟨rfl, hR2, hb2, hk2⟩) | fail)
      rw [Exit.noGoto_ret]
      go_ret2
      have he : out = Tree.proofR dE dL dN l i := by
        have := hval.out
        rw [Tree.proofR_small dE dL dN (by rw [HM.out.1]; exact Nat.le_refl _), List.append_nil] at this
        exact this
      exact ⟨_, rfl, he ▸ Kd.R_mono hR2 (fun _ _ => trivial), hb2⟩
    · have d3 : ((m : Int) == 1) = false := by simp; omega
      obtain ⟨k, hk⟩ : ∃ k, Tree.left m = k := ⟨_, rfl⟩
      have hkn : 0 < k ∧ k < m := by rw [← hk]; exact ⟨Tree.left_pos _, Tree.left_lt (by omega)⟩
      have hkn1 := hkn.1
      have hkn2 := hkn.2
      have HK := Lib.hid hk
      clear hk hkn
      have hlf := fun W0 => left_walk m (by omega) (by omega) W0
      have HLF := Lib.hid hlf
      clear hlf
      have htk : (l'.take k).length = k := by rw [List.length_take, HM.out.1]; omega
      have hdk : (l'.drop k).length = m - k := by rw [List.length_drop, HM.out.1]
      have hct := strs_take hr'.out k
      have hcd := strs_drop hr'.out k
      have hRT : ∀ W, Below w.heap.size w W → Calls Tryd.prog 19 #[.slice (some ad') k c'] W fun e w' => e = .returned (.string (Tree.root dE dL dN (l'.take k))) ∧ Below W.heap.size W w' := fun W hb => by
        have := Root_walk (some ad') c' (l'.take k) W (HG.out.below hb) (Kd.C_below hct hb) (by omega) (by omega) (fun x hx => hs'.out x (List.mem_of_mem_take hx))
        rw [htk] at this
        exact this
      have hRD : ∀ W, Below w.heap.size w W → Calls Tryd.prog 19 #[.slice (some (ad'.add k)) (m - k) (c' - k)] W fun e w' => e = .returned (.string (Tree.root dE dL dN (l'.drop k))) ∧ Below W.heap.size W w' := fun W hb => by
        have := Root_walk (some (ad'.add k)) (c' - k) (l'.drop k) W (HG.out.below hb) (Kd.C_below hcd hb) (by omega) (by omega) (fun x hx => hs'.out x (List.mem_of_mem_drop hx))
        rw [hdk] at this
        exact this
      have HRT := Lib.hid (And.intro hRT hRD)
      have HL := Lib.hid (And.intro htk (And.intro hdk (And.intro hct hcd)))
      clear hRT hRD htk hdk hct hcd
      by_cases hik : k ≤ i'
      · have d4 : decide ((k : Int) ≤ (i' : Int)) = true := decide_eq_true (by omega)
        go_wp2_with (first | (go_at_call 40; refine (HLF.out _).mono ?_; rintro e w2 ⟨he, hw2⟩; obtain rfl := hw2.symm; rw [HK.out] at he; subst he) | fail)
        go_quiet (fail)
        go_wp2_with (first | (go_at_call 19; refine (HRT.out.1 _ (below_dN hbel _)).mono ?_; rintro e w2 ⟨rfl, hb2⟩; have HB2 := Lib.hid ((below_dN hbel _).trans (hb2.mono (by simpa using hNr))); have HO2 := Lib.hid ((own_dN HO.out _).kept (below_grown (B := 0) hb2 none) (by rcases hh : u6.ownBlock with _ | k2; exact .inl rfl; exact .inr (by simp)))) | (at_builtin; refine wpList_append_own _ (by rfl) (.tmp 38) (.tmp 41) 22 (by rfl) w.heap.size 9 i0 _ 1 16 Tryd.underlying22 hi9 hz0 hz1 hz2 (by rfl) (by decide) u6 q (strV out) (by rfl) (HO2.out.alloc _) ⟨w2.heap.size, 0, none⟩ 1 1 [.string (Tree.root dE dL dN (l'.take k))] (by rfl) rfl (news_new1 _ _ _ _ _ rfl rfl) (by simp [Value.oneCell']) (by unfold maxLen; omega) (by omega) (by simp; have := HB2.out.size; omega) ?_; intro v3' w3 hown3 hg3 hnil3) | fail)
        go_roundw
        case rel =>
          have hlen : (out ++ [Tree.root dE dL dN (l'.take k)]).length = q + 1 := by rw [List.length_append, HQ.out, List.length_singleton]
          have hst : Tree.proofR dE dL dN l' i' = Tree.root dE dL dN (l'.take k) :: Tree.proofR dE dL dN (l'.drop k) (i' - k) := by
            have := Tree.proofR_high dE dL dN (l := l') (i := i') (by rw [HM.out.1]; omega) (by rw [HM.out.1, HK.out]; omega)
            rw [HM.out.1, HK.out] at this
            exact this
          refine ⟨l'.drop k, i' - k, ad'.add k, c' - k, out ++ [Tree.root dE dL dN (l'.take k)], by rw [HL.out.2.1], by congr 1; omega, by rw [HL.out.2.1]; omega, by rw [HL.out.2.1]; omega, by rw [hlen, HL.out.2.1]; omega, Lib.hid HL.out.2.2.2, Lib.hid (fun x hx => hs'.out x (List.mem_of_mem_drop hx)), Lib.hid ?_, Lib.hid ?_, ?_⟩
          · rw [hlen, strV_snoc]
            exact hown3
          · rw [← hval.out, hst, List.append_assoc]
            rfl
          · exact Below.grown (HB2.out.alloc HB2.out.size _) hg3 (by simp; have := HB2.out.size; omega) (fun k hk => (HO2.out.lt k hk).1)
        case measure => simp [lenOf]; omega
      · have d4 : decide ((k : Int) ≤ (i' : Int)) = false := decide_eq_false (by omega)
        go_wp2_with (first | (go_at_call 40; refine (HLF.out _).mono ?_; rintro e w2 ⟨he, hw2⟩; obtain rfl := hw2.symm; rw [HK.out] at he; subst he) | fail)
        go_quiet (fail)
        go_wp2_with (first | (go_at_call 19; refine (HRT.out.2 _ (below_dN hbel _)).mono ?_; rintro e w2 ⟨rfl, hb2⟩; have HB2 := Lib.hid ((below_dN hbel _).trans (hb2.mono (by simpa using hNr))); have HO2 := Lib.hid ((own_dN HO.out _).kept (below_grown (B := 0) hb2 none) (by rcases hh : u6.ownBlock with _ | k2; exact .inl rfl; exact .inr (by simp)))) | (at_builtin; refine wpList_append_own _ (by rfl) (.tmp 38) (.tmp 41) 22 (by rfl) w.heap.size 9 i0 _ 1 16 Tryd.underlying22 hi9 hz0 hz1 hz2 (by rfl) (by decide) u6 q (strV out) (by rfl) (HO2.out.alloc _) ⟨w2.heap.size, 0, none⟩ 1 1 [.string (Tree.root dE dL dN (l'.drop k))] (by rfl) rfl (news_new1 _ _ _ _ _ rfl rfl) (by simp [Value.oneCell']) (by unfold maxLen; omega) (by omega) (by simp; have := HB2.out.size; omega) ?_; intro v3' w3 hown3 hg3 hnil3) | fail)
        go_roundw
        case rel =>
          have hlen : (out ++ [Tree.root dE dL dN (l'.drop k)]).length = q + 1 := by rw [List.length_append, HQ.out, List.length_singleton]
          have hst : Tree.proofR dE dL dN l' i' = Tree.root dE dL dN (l'.drop k) :: Tree.proofR dE dL dN (l'.take k) (i') := by
            have := Tree.proofR_low dE dL dN (l := l') (i := i') (by rw [HM.out.1]; omega) (by rw [HM.out.1, HK.out]; omega)
            rw [HM.out.1, HK.out] at this
            exact this
          refine ⟨l'.take k, i', ad', c', out ++ [Tree.root dE dL dN (l'.drop k)], by rw [HL.out.1], rfl, by rw [HL.out.1]; omega, by rw [HL.out.1]; omega, by rw [hlen, HL.out.1]; omega, Lib.hid HL.out.2.2.1, Lib.hid (fun x hx => hs'.out x (List.mem_of_mem_take hx)), Lib.hid ?_, Lib.hid ?_, ?_⟩
          · rw [hlen, strV_snoc]
            exact hown3
          · rw [← hval.out, hst, List.append_assoc]
            rfl
          · exact Below.grown (HB2.out.alloc HB2.out.size _) hg3 (by simp; have := HB2.out.size; omega) (fun k hk => (HO2.out.lt k hk).1)
        case measure => simp [lenOf]; omega
end Go.Proofs.YtlmlimihgohchaaDoor.Ext
end
