import Derived.Test.YtlmlimihgohchaaDoorYRoot
/-
  Texts of this claim, one behind the other: what they prove stands above each.
-/
section
/-
  all: whether all strings of a list are 32 bytes long.
-/
namespace Go.Proofs.YtlmlimihgohchaaDoor.Ext
open Go.RowKit Go.Shelf Go.Proofs.YtlmlimihgohchaaDoorW.PrintWords Go.Proofs.YtlmlimihgohchaaDoorW.PrintLast Go.Proofs.YtlmlimihgohchaaDoorW.PrintMore
set_option linter.unusedVariables false
set_option linter.unusedSimpArgs false
def dig32 (s : ByteArray) : Bool := s.size == 32
theorem isDigest_walk (s : ByteArray) (hs : s.size ≤ 9223372036854775807) (w : World) :
    Calls Tryd.prog 51 #[.string s] w fun e w' => e = .returned (.bool ((s.size : Int) == 32)) ∧ w' = w := by
  go_enter Tryd.func51, Tryd.ntmps51
  go_wp2
  go_ret
  exact ⟨rfl, rfl⟩
theorem all1_walk (s : ByteArray) (hs : s.size ≤ 9223372036854775807) (w : World) :
    Calls Tryd.prog 61 #[.string s] w fun e w' => e = .returned (.bool (!((s.size : Int) == 32))) ∧ w' = w := by
  go_enter Tryd.func61, Tryd.ntmps61
  go_wp2_with (first | (go_at_call 51; refine (isDigest_walk s hs _).mono ?_; rintro e w' ⟨rfl, rfl⟩) | fail)
  go_ret
  exact ⟨rfl, rfl⟩
def OddAt (l : List ByteArray) (w : World) (e : Ending) (w' : World) : Prop := ∃ r : Int, e = .returned (.int .i64 r) ∧ ((0 ≤ r) ↔ ¬ (∀ x ∈ l, x.size = 32)) ∧ r < 1000000000 ∧ -1 ≤ r ∧ w' = w
set_option maxRecDepth 100000 in
set_option maxHeartbeats 1000000 in
theorem index_walk (A : Option Addr) (c : Nat) (l : List ByteArray) (w : World) (hr : Kd.C Kd.string w A l.length l) (hc : l.length ≤ c) (hn : l.length ≤ 1000000) (hs : ∀ x ∈ l, x.size ≤ 9223372036854775807) :
    Calls Tryd.prog 73 #[.slice A l.length c, .func (.func 61) #[] #[]] w (OddAt l w) := by
  obtain ⟨n, hnl⟩ : ∃ n, l.length = n := ⟨_, rfl⟩
  rw [hnl] at hr hc hn ⊢
  have HR := Lib.hid hr
  have HN := Lib.hid hnl
  have HS := Lib.hid hs
  clear hr hnl hs
  go_enter Tryd.func73, Tryd.ntmps73
  go_wp2
  go_loop [8] (fun i => ∃ k : Nat, k ≤ n ∧ i = .int .i64 (k : Int) ∧ Hid (∀ x ∈ l.take k, x.size = 32)) (fun i => n - (intOf i).toNat)
  case atStart => exact ⟨0, by omega, rfl, Lib.hid (by simp)⟩
  case round =>
    obtain ⟨k, hk, rfl, hall⟩ := hrel
    by_cases hlt : k < n
    · obtain ⟨x, hx⟩ : ∃ x, l[k]? = some x := ⟨l[k]'(by rw [HN.out]; exact hlt), List.getElem?_eq_getElem _⟩
      obtain ⟨ad, hA, hcc⟩ := HR.out.2.2 (by omega)
      subst hA
      have hcell : w.cell? (ad.add k) = some (.string x) := strs_cell HR.out hx
      have hxs : x.size ≤ 9223372036854775807 := HS.out x (List.mem_of_getElem? hx)
      have HX := Lib.hid hx
      clear hx hcc
      have d1 : decide ((k : Int) < (n : Int)) = true := decide_eq_true (by omega)
      by_cases h32 : x.size = 32
      · have e1 : ((x.size : Int) == 32) = true := by simp; omega
        go_wp2_with (first | (go_at_call 61; refine (all1_walk x hxs _).mono ?_; rintro e w' ⟨rfl, rfl⟩) | fail)
        go_round
        case rel =>
          refine ⟨k + 1, by omega, by go_num, Lib.hid ?_⟩
          intro y hy
          rw [List.take_add_one, HX.out] at hy
          rcases List.mem_append.1 hy with h | h
          · exact hall.out y h
          · simp at h; rw [h]; exact h32
        case measure => simp [intOf]; omega
      · have e1 : ((x.size : Int) == 32) = false := by simp; omega
        have H32 := Lib.hid h32
        clear h32
        go_wp2_with (first | (go_at_call 61; refine (all1_walk x hxs _).mono ?_; rintro e w' ⟨rfl, rfl⟩) | fail)
        go_ret
        exact ⟨k, rfl, ⟨fun _ h => H32.out (h x (List.mem_of_getElem? HX.out)), fun _ => by omega⟩, by omega, by omega, rfl⟩
    · obtain rfl : k = n := by omega
      go_wp2
      go_ret
      have htk : l.take k = l := by rw [List.take_of_length_le (by rw [HN.out]; exact Nat.le_refl _)]
      have := hall.out
      rw [htk] at this
      exact ⟨-1, rfl, ⟨fun h => by omega, fun h => absurd this h⟩, by omega, by omega, rfl⟩
theorem contains_walk (A : Option Addr) (c : Nat) (l : List ByteArray) (w : World) (hr : Kd.C Kd.string w A l.length l) (hc : l.length ≤ c) (hn : l.length ≤ 1000000) (hs : ∀ x ∈ l, x.size ≤ 9223372036854775807) :
    Calls Tryd.prog 62 #[.slice A l.length c, .func (.func 61) #[] #[]] w fun e w' => e = .returned (.bool (!l.all dig32)) ∧ w' = w := by
  have hw := index_walk A c l w hr hc hn hs
  have HW := Lib.hid hw
  clear hw hr
  go_enter Tryd.func62, Tryd.ntmps62
  go_wp2_with (first | (go_at_call 73; refine (HW.out).mono ?_; rintro e w' ⟨r, rfl, hr', h1, h2, rfl⟩; have HRR := Lib.hid hr'; clear hr') | fail)
  go_ret
  refine ⟨?_, rfl⟩
  have hr := HRR.out
  have : decide (0 ≤ r) = !l.all dig32 := by
    by_cases h : 0 ≤ r
    · rw [decide_eq_true h]
      have := hr.1 h
      symm
      rw [Bool.not_eq_true', Bool.eq_false_iff]
      intro h'
      exact this (fun x hx => by have := List.all_eq_true.1 h' x hx; simpa [dig32] using this)
    · rw [decide_eq_false h]
      have h' : ∀ x ∈ l, x.size = 32 := by
        rcases Classical.em (∀ x ∈ l, x.size = 32) with h' | h'
        · exact h'
        · exact absurd (hr.2 h') h
      symm
      rw [Bool.not_eq_false']
      exact List.all_eq_true.2 (fun x hx => by simp [dig32, h' x hx])
  rw [← this]
  rfl
theorem all_walk (A : Option Addr) (c : Nat) (l : List ByteArray) (w : World) (hr : Kd.C Kd.string w A l.length l) (hc : l.length ≤ c) (hn : l.length ≤ 1000000) (hs : ∀ x ∈ l, x.size ≤ 9223372036854775807) :
    Calls Tryd.prog 45 #[.slice A l.length c] w fun e w' => e = .returned (.bool (l.all dig32)) ∧ w' = w := by
  have hw := contains_walk A c l w hr hc hn hs
  have HW := Lib.hid hw
  clear hw hr
  go_enter Tryd.func45, Tryd.ntmps45
  go_wp2_with (first | (go_at_call 62; refine (HW.out).mono ?_; rintro e w' ⟨rfl, rfl⟩) | fail)
  go_ret
  exact ⟨by simp, rfl⟩
end Go.Proofs.YtlmlimihgohchaaDoor.Ext
end
