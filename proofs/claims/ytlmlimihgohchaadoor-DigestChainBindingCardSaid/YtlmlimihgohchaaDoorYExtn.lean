import Derived.Test.YtlmlimihgohchaaDoorYProof
/-
  Texts of this claim, one behind the other: what they prove stands above each.
-/
section
/-
  The walk of Extension.
-/
namespace Go.Proofs.YtlmlimihgohchaaDoor.Ext
open Go.RowKit Go.Shelf Go.Proofs.YtlmlimihgohchaaDoorW.PrintWords Go.Proofs.YtlmlimihgohchaaDoorW.PrintLast Go.Proofs.YtlmlimihgohchaaDoorW.PrintMore
open Go.Proofs.YtlmlimihgohchaaDoor.PQ
set_option linter.unusedVariables false
set_option linter.unusedSimpArgs false
attribute [local go_sem] Oper.semAt_some
attribute [local go_sem ↓] Go.wp_at_zero Go.wp_at_succ
theorem own_snoc {w : World} {N q : Nat} {v : Value} {out : List ByteArray} {x : ByteArray} (hq : out.length = q) (h : w.ownsRow N 9 1 v (q + 1) (strV out ++ [.string x])) : w.ownsRow N 9 1 v (out ++ [x]).length (strV (out ++ [x])) := by
  rw [List.length_append, hq, strV_snoc]
  exact h
set_option maxRecDepth 100000 in
set_option maxHeartbeats 1000000 in
theorem Extension_walk (ad : Addr) (c : Nat) (l : List ByteArray) (i : Nat) (w : World) (hG : GL w) (hr : Kd.C Kd.string w (some ad) l.length l) (hc : l.length ≤ c) (hln : l.length ≤ 1000000) (hls : ∀ x ∈ l, x.size ≤ 140737488349000) (hp : 1 ≤ i) (hi : i ≤ l.length) :
    Calls Tryd.prog 16 #[.slice (some ad) l.length c, .int .i64 (i : Int)] w fun e w' => ∃ v, e = .returned (.tuple #[v, .int .i64 0]) ∧ Kd.R Kd.string 9 w' w.heap.size (fun _ => True) v (Tree.partR dE dL dN l i true).reverse ∧ Below w.heap.size w w' := by
  obtain ⟨i0, hi9, hz0, hz1, hz2⟩ := info_parts info9
  have HR := Lib.hid hr
  have HG := Lib.hid hG
  have HS := Lib.hid hls
  clear hr hG hls
  obtain ⟨L, hL⟩ : ∃ L, l.length = L := ⟨_, rfl⟩
  have hlr := HR.out
  rw [hL] at hlr hc hln hi ⊢
  have HLR := Lib.hid (And.intro hL hlr)
  clear hL hlr
  have d1 : decide ((i : Int) < 0) = false := decide_eq_false (by omega)
  have d2 : decide ((L : Int) < (i : Int)) = false := decide_eq_false (by omega)
  have d2' : decide (L < i) = false := decide_eq_false (by omega)
  have d0 : ((i : Int) == 0) = false := by simp; omega
  go_enter Tryd.func16, Tryd.ntmps16
  go_wp2
  go_loopw [0, 1, 6, 7] (fun vl vi vo vb wr => ∃ (l' : List ByteArray) (i' : Nat) (ad' : Addr) (c' : Nat) (out : List ByteArray) (b : Bool), vl = .slice (some ad') l'.length c' ∧ vi = .int .i64 (i' : Int) ∧ vb = .bool b ∧ 1 ≤ i' ∧ i' ≤ l'.length ∧ l'.length ≤ c' ∧ out.length + l'.length ≤ L ∧ Hid (Kd.C Kd.string w (some ad') l'.length l') ∧ Hid (∀ x ∈ l', x.size ≤ 140737488349000) ∧ Hid (wr.ownsRow w.heap.size 9 1 vo out.length (strV out)) ∧ Hid (out ++ Tree.partR dE dL dN l' i' b = Tree.partR dE dL dN l i true) ∧ Below w.heap.size w wr) (fun vl vi vo vb wr => lenOf vl)
  case atStart => exact ⟨l, i, ad, c, [], true, by rw [HLR.out.1], rfl, rfl, hp, by rw [HLR.out.1]; exact hi, by rw [HLR.out.1]; exact hc, by rw [HLR.out.1]; simp, HR, HS, Lib.hid (World.ownsRow_nil _ _ _ _), Lib.hid (by simp), Below.refl _ _⟩
  case round =>
    obtain ⟨l', i', ad', c', out, b, rfl, rfl, rfl, hp', hi', hc', hol, hr', hs', hown, hval, hbel⟩ := hrel
    obtain ⟨m, hm⟩ : ∃ m, l'.length = m := ⟨_, rfl⟩
    obtain ⟨q, hq⟩ : ∃ q, out.length = q := ⟨_, rfl⟩
    have hr2 := hr'.out
    have ho := hown.out
    rw [hm] at hi' hc' hol hr2 ⊢
    rw [hq] at hol ho
    have HM := Lib.hid (And.intro hm hr2)
    have HQ := Lib.hid hq
    have HO := Lib.hid ho
    clear hm hq ho hr2
    have hNr := hbel.size
    by_cases h1 : ¬ i' < m
    · have hE : i' = m := by omega
      subst hE
      have d3 : decide ((i' : Int) < (i' : Int)) = false := by simp
      cases b with
      | true =>
        go_wp2_with (first | (go_at_call 41; refine (slices_Reverse_string_string.calls (out.length + 1) (fun _ => True) u6 out out.reverse w wr hbel (R_of_own hown.out) (rev_f out (by rw [HQ.out]; omega))).mono ?_; rintro e w9 ⟨rfl, hR2, hb9, hk2⟩) | fail)
        go_ret2
        have he : out = Tree.partR dE dL dN l i true := by
          have := hval.out
          rw [Tree.partR_end dE dL dN (by rw [HM.out.1]; exact Nat.le_refl _), if_pos rfl, List.append_nil] at this
          exact this
        exact ⟨_, rfl, he ▸ Kd.R_mono hR2 (fun _ _ => trivial), hb9⟩
      | false =>
        have he : out ++ [Tree.root dE dL dN l'] = Tree.partR dE dL dN l i true := by
          have := hval.out
          rw [Tree.partR_end dE dL dN (by rw [HM.out.1]; exact Nat.le_refl _), if_neg (by decide)] at this
          exact this
        have HE := Lib.hid he
        clear he
        have hRT : ∀ W, Below w.heap.size w W → Calls Tryd.prog 19 #[.slice (some ad') i' c'] W fun e w' => e = .returned (.string (Tree.root dE dL dN l')) ∧ Below W.heap.size W w' := fun W hb => by
          have := Root_walk (some ad') c' l' W (HG.out.below hb) (Kd.C_below hr'.out hb) (by rw [HM.out.1]; omega) (by rw [HM.out.1]; omega) hs'.out
          rw [HM.out.1] at this
          exact this
        have HRT := Lib.hid hRT
        clear hRT
        go_wp2_with (first | (go_at_call 19; refine (HRT.out _ hbel).mono ?_; rintro e w2 ⟨rfl, hb2⟩; have HB2 := Lib.hid (hbel.trans (hb2.mono hNr)); have HO2 := Lib.hid (HO.out.kept (below_grown (B := 0) hb2 none) (by rcases hh : u6.ownBlock with _ | k2; exact .inl rfl; exact .inr (by simp)))) | (at_builtin; refine wpList_append_own _ (by rfl) (.tmp 52) (.tmp 55) 22 (by rfl) w.heap.size 9 i0 _ 1 16 Tryd.underlying22 hi9 hz0 hz1 hz2 (by rfl) (by decide) u6 q (strV out) (by rfl) (HO2.out.alloc _) ⟨w2.heap.size, 0, none⟩ 1 1 [.string (Tree.root dE dL dN l')] (by rfl) rfl (news_new1 _ _ _ _ _ rfl rfl) (by simp [Value.oneCell']) (by unfold maxLen; omega) (by omega) (by simp; have := HB2.out.size; omega) ?_; intro v3' w3 hown3 hg3 hnil3; have HB3 := Lib.hid (Below.grown (HB2.out.alloc HB2.out.size _) hg3 (by simp; have := HB2.out.size; omega) (fun k hk => (HO2.out.lt k hk).1)); have HO3 := Lib.hid (own_snoc HQ.out hown3)) | (go_at_call 41; refine (slices_Reverse_string_string.calls ((out ++ [Tree.root dE dL dN l']).length + 1) (fun _ => True) v3' (out ++ [Tree.root dE dL dN l']) (out ++ [Tree.root dE dL dN l']).reverse w w3 HB3.out (R_of_own HO3.out) (rev_f (out ++ [Tree.root dE dL dN l']) (by rw [List.length_append, HQ.out, List.length_singleton]; omega))).mono ?_; rintro e w9 ⟨rfl, hR2, hb9, hk2⟩) | fail)
        go_ret2
        exact ⟨_, rfl, HE.out ▸ Kd.R_mono hR2 (fun _ _ => trivial), hb9⟩
    · have hlt : i' < m := by omega
      have d3 : decide ((i' : Int) < (m : Int)) = true := decide_eq_true (by omega)
      obtain ⟨k, hk⟩ : ∃ k, Tree.left m = k := ⟨_, rfl⟩
      have hkn : 0 < k ∧ k < m := by rw [← hk]; exact ⟨Tree.left_pos _, Tree.left_lt (by omega)⟩
      have hkn1 := hkn.1
      have hkn2 := hkn.2
      have HK := Lib.hid hk
      clear hk hkn
      have hlf := fun W0 => left_walk m (by omega) (by omega) W0
      have HLF := Lib.hid hlf
      clear hlf
      have htk : (l'.take k).length = k := by rw [List.length_take, HM.out.1]; omega
      have hdk : (l'.drop k).length = m - k := by rw [List.length_drop, HM.out.1]
      have hct := strs_take hr'.out k
      have hcd := strs_drop hr'.out k
      have hRT : ∀ W, Below w.heap.size w W → Calls Tryd.prog 19 #[.slice (some ad') k c'] W fun e w' => e = .returned (.string (Tree.root dE dL dN (l'.take k))) ∧ Below W.heap.size W w' := fun W hb => by
        have := Root_walk (some ad') c' (l'.take k) W (HG.out.below hb) (Kd.C_below hct hb) (by omega) (by omega) (fun x hx => hs'.out x (List.mem_of_mem_take hx))
        rw [htk] at this
        exact this
      have hRD : ∀ W, Below w.heap.size w W → Calls Tryd.prog 19 #[.slice (some (ad'.add k)) (m - k) (c' - k)] W fun e w' => e = .returned (.string (Tree.root dE dL dN (l'.drop k))) ∧ Below W.heap.size W w' := fun W hb => by
        have := Root_walk (some (ad'.add k)) (c' - k) (l'.drop k) W (HG.out.below hb) (Kd.C_below hcd hb) (by omega) (by omega) (fun x hx => hs'.out x (List.mem_of_mem_drop hx))
        rw [hdk] at this
        exact this
      have HRT := Lib.hid (And.intro hRT hRD)
      have HL := Lib.hid (And.intro htk (And.intro hdk (And.intro hct hcd)))
      clear hRT hRD htk hdk hct hcd
      by_cases hik : k < i'
      · have d4 : decide ((k : Int) < (i' : Int)) = true := decide_eq_true (by omega)
        go_wp2_with (first | (go_at_call 40; refine (HLF.out _).mono ?_; rintro e w2 ⟨he, hw2⟩; obtain rfl := hw2.symm; rw [HK.out] at he; subst he) | fail)
        go_quiet (fail)
        go_wp2_with (first | (go_at_call 19; refine (HRT.out.1 _ (below_dN hbel _)).mono ?_; rintro e w2 ⟨rfl, hb2⟩; have HB2 := Lib.hid ((below_dN hbel _).trans (hb2.mono (by simpa using hNr))); have HO2 := Lib.hid ((own_dN HO.out _).kept (below_grown (B := 0) hb2 none) (by rcases hh : u6.ownBlock with _ | k2; exact .inl rfl; exact .inr (by simp)))) | (at_builtin; refine wpList_append_own _ (by rfl) (.tmp 44) (.tmp 47) 22 (by rfl) w.heap.size 9 i0 _ 1 16 Tryd.underlying22 hi9 hz0 hz1 hz2 (by rfl) (by decide) u6 q (strV out) (by rfl) (HO2.out.alloc _) ⟨w2.heap.size, 0, none⟩ 1 1 [.string (Tree.root dE dL dN (l'.take k))] (by rfl) rfl (news_new1 _ _ _ _ _ rfl rfl) (by simp [Value.oneCell']) (by unfold maxLen; omega) (by omega) (by simp; have := HB2.out.size; omega) ?_; intro v3' w3 hown3 hg3 hnil3) | fail)
        go_roundw
        case rel =>
          have hlen : (out ++ [Tree.root dE dL dN (l'.take k)]).length = q + 1 := by rw [List.length_append, HQ.out, List.length_singleton]
          have hst : Tree.partR dE dL dN l' i' b = Tree.root dE dL dN (l'.take k) :: Tree.partR dE dL dN (l'.drop k) (i' - k) false := by
            have := Tree.partR_high dE dL dN (l := l') (m := i') (by omega) (by rw [HM.out.1]; omega) (by rw [HM.out.1, HK.out]; omega) b
            rw [HM.out.1, HK.out] at this
            exact this
          refine ⟨l'.drop k, i' - k, ad'.add k, c' - k, out ++ [Tree.root dE dL dN (l'.take k)], false, by rw [HL.out.2.1], by congr 1; omega, rfl, by omega, by rw [HL.out.2.1]; omega, by rw [HL.out.2.1]; omega, by rw [hlen, HL.out.2.1]; omega, Lib.hid HL.out.2.2.2, Lib.hid (fun x hx => hs'.out x (List.mem_of_mem_drop hx)), Lib.hid ?_, Lib.hid ?_, ?_⟩
          · rw [hlen, strV_snoc]
            exact hown3
          · rw [← hval.out, hst, List.append_assoc]
            rfl
          · exact Below.grown (HB2.out.alloc HB2.out.size _) hg3 (by simp; have := HB2.out.size; omega) (fun k hk => (HO2.out.lt k hk).1)
        case measure => simp [lenOf]; omega
      · have d4 : decide ((k : Int) < (i' : Int)) = false := decide_eq_false (by omega)
        go_wp2_with (first | (go_at_call 40; refine (HLF.out _).mono ?_; rintro e w2 ⟨he, hw2⟩; obtain rfl := hw2.symm; rw [HK.out] at he; subst he) | fail)
        go_quiet (fail)
        go_wp2_with (first | (go_at_call 19; refine (HRT.out.2 _ (below_dN hbel _)).mono ?_; rintro e w2 ⟨rfl, hb2⟩; have HB2 := Lib.hid ((below_dN hbel _).trans (hb2.mono (by simpa using hNr))); have HO2 := Lib.hid ((own_dN HO.out _).kept (below_grown (B := 0) hb2 none) (by rcases hh : u6.ownBlock with _ | k2; exact .inl rfl; exact .inr (by simp)))) | (at_builtin; refine wpList_append_own _ (by rfl) (.tmp 44) (.tmp 47) 22 (by rfl) w.heap.size 9 i0 _ 1 16 Tryd.underlying22 hi9 hz0 hz1 hz2 (by rfl) (by decide) u6 q (strV out) (by rfl) (HO2.out.alloc _) ⟨w2.heap.size, 0, none⟩ 1 1 [.string (Tree.root dE dL dN (l'.drop k))] (by rfl) rfl (news_new1 _ _ _ _ _ rfl rfl) (by simp [Value.oneCell']) (by unfold maxLen; omega) (by omega) (by simp; have := HB2.out.size; omega) ?_; intro v3' w3 hown3 hg3 hnil3) | fail)
        go_roundw
        case rel =>
          have hlen : (out ++ [Tree.root dE dL dN (l'.drop k)]).length = q + 1 := by rw [List.length_append, HQ.out, List.length_singleton]
          have hst : Tree.partR dE dL dN l' i' b = Tree.root dE dL dN (l'.drop k) :: Tree.partR dE dL dN (l'.take k) (i') b := by
            have := Tree.partR_low dE dL dN (l := l') (m := i') (by omega) (by rw [HM.out.1]; omega) (by rw [HM.out.1, HK.out]; omega) b
            rw [HM.out.1, HK.out] at this
            exact this
          refine ⟨l'.take k, i', ad', c', out ++ [Tree.root dE dL dN (l'.drop k)], b, by rw [HL.out.1], rfl, rfl, by omega, by rw [HL.out.1]; omega, by rw [HL.out.1]; omega, by rw [hlen, HL.out.1]; omega, Lib.hid HL.out.2.2.1, Lib.hid (fun x hx => hs'.out x (List.mem_of_mem_take hx)), Lib.hid ?_, Lib.hid ?_, ?_⟩
          · rw [hlen, strV_snoc]
            exact hown3
          · rw [← hval.out, hst, List.append_assoc]
            rfl
          · exact Below.grown (HB2.out.alloc HB2.out.size _) hg3 (by simp; have := HB2.out.size; omega) (fun k hk => (HO2.out.lt k hk).1)
        case measure => simp [lenOf]; omega
end Go.Proofs.YtlmlimihgohchaaDoor.Ext
end
