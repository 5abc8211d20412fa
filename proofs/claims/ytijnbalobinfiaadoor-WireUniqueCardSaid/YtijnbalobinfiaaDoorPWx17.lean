-- Written by a program of this session out of the translation's print; not trusted: checked by the kernel.
import Derived.Test.YtijnbalobinfiaaDoorPWx0
import Derived.Test.YtijnbalobinfiaaDoorPWx2
import Derived.Test.YtijnbalobinfiaaDoorPWx3
import Derived.Test.YtijnbalobinfiaaDoorPWx4
import Derived.Test.YtijnbalobinfiaaDoorPWx6
import Derived.Test.YtijnbalobinfiaaDoorPWx7
namespace Go.Proofs.YtijnbalobinfiaaDoor.PW
open Go.Proofs.YtijnbalobinfiaaDoor.Ext
attribute [local go_sem] u32_signed u32_max
open Go.RowKit Go.Proofs.YtijnbalobinfiaaDoorW.PrintWords Go.Proofs.YtijnbalobinfiaaDoorW.PrintLast Go.Proofs.YtijnbalobinfiaaDoorW.PrintMore
attribute [local go_sem] max2_int min2_int max_two min_two max_three min_three max_four min_four   -- for this text's walks alone
set_option linter.unusedVariables false
set_option linter.unusedSimpArgs false

/-! ### airchecklaw01_WireUnique: function 5 -/
mutual
def airchecklaw01_WireUnique.l0 : Nat → Bool → ByteArray → List Int → Int → Int → Option (Bool)
  | 0, _, _, _, _, _ => none
  | k + 1, x7, x8, x36, x37, x38 => if x38 < x37 then (if 0 ≤ x38 then (if x38 < (x36.length : Int) then ((wire_Int.f k x8 (rd x36 x38)).bind fun bt209 => ((wire_PutInt.f bt209.1).bind fun bt212 => (if bt209.2.2 = 0 then (if bt212.2 = 0 then (if bt209.2.1 < (rd x36 x38) then (airchecklaw01_WireUnique.j1 k x7 x8 (rd x36 x38) x36 x37 x38 true) else (if bt209.2.1 > (x8.size : Int) then (airchecklaw01_WireUnique.j1 k x7 x8 (rd x36 x38) x36 x37 x38 true) else (if 0 ≤ (rd x36 x38) then (if (rd x36 x38) ≤ bt209.2.1 then (if bt209.2.1 ≤ (x8.size : Int) then (if (x8.extract ((rd x36 x38) : Int).toNat (bt209.2.1 : Int).toNat).toList = bt212.1.toList then (airchecklaw01_WireUnique.j1 k x7 x8 (rd x36 x38) x36 x37 x38 false) else (airchecklaw01_WireUnique.j1 k x7 x8 (rd x36 x38) x36 x37 x38 true)) else (none)) else (none)) else (none)))) else (airchecklaw01_WireUnique.j1 k x7 x8 (rd x36 x38) x36 x37 x38 true)) else (if bt209.2.2 = 10 then (if bt209.1 = 0 then (airchecklaw01_WireUnique.j1 k x7 x8 (rd x36 x38) x36 x37 x38 (bt209.2.1 != 0)) else (airchecklaw01_WireUnique.j1 k x7 x8 (rd x36 x38) x36 x37 x38 true)) else (airchecklaw01_WireUnique.j1 k x7 x8 (rd x36 x38) x36 x37 x38 true))))) else (none)) else (none)) else (some x7)
def airchecklaw01_WireUnique.j1 : Nat → Bool → ByteArray → Int → List Int → Int → Int → Bool → Option (Bool)
  | 0, _, _, _, _, _, _, _ => none
  | k + 1, x7, x8, x10, x36, x37, x38, x94 => if x94 = true then (some false) else ((wire_String.f k x8 x10).bind fun bt214 => ((wire_PutString.f bt214.1).bind fun bt217 => (if bt214.2.2 = 0 then (if bt217.2 = 0 then (if bt214.2.1 < x10 then (some false) else (if bt214.2.1 > (x8.size : Int) then (some false) else (if 0 ≤ x10 then (if x10 ≤ bt214.2.1 then (if bt214.2.1 ≤ (x8.size : Int) then (if (x8.extract (x10 : Int).toNat (bt214.2.1 : Int).toNat).toList = bt217.1.toList then (airchecklaw01_WireUnique.l0 k x7 x8 x36 x37 (wrap64 (x38 + 1))) else (some false)) else (none)) else (none)) else (none)))) else (some false)) else (if bt214.2.2 = 10 then (if bt214.1.toList = ([] : List UInt8) then (if bt214.2.1 = 0 then (airchecklaw01_WireUnique.l0 k x7 x8 x36 x37 (wrap64 (x38 + 1))) else (some false)) else (some false)) else (some false)))))
end
def airchecklaw01_WireUnique.f (k : Nat) (a0 : ByteArray) (a1 : Int) (a2 : Int) : Option (Bool) := (airchecklaw01_sane.f k).bind fun t200 => ((some (([a2] : List Int) : List Int)).bind fun y201 => (if 0 ≤ (mn (a0.size : Int) 300) then (if (mn (a0.size : Int) 300) ≤ (a0.size : Int) then (if (strOfNums y201).size + (a0.extract 0 ((mn (a0.size : Int) 300) : Int).toNat).size ≤ 9223372036854775807 then ((airchecklaw01_pick.f a1 (wrap64 ((((strOfNums y201) ++ (a0.extract 0 ((mn (a0.size : Int) 300) : Int).toNat)).size : Int) + 1))).bind fun t204 => ((some (([0, t204] : List Int) : List Int)).bind fun y205 => (airchecklaw01_WireUnique.l0 k t200 ((strOfNums y201) ++ (a0.extract 0 ((mn (a0.size : Int) 300) : Int).toNat)) y205 (y205.length : Int) 0))) else (none)) else (none)) else (none)))
theorem airchecklaw01_WireUnique.mono_l : ∀ k, (∀ y0 y1 y2 y3 y4, LeO (airchecklaw01_WireUnique.l0 k y0 y1 y2 y3 y4) (airchecklaw01_WireUnique.l0 (k + 1) y0 y1 y2 y3 y4)) ∧ (∀ y0 y1 y2 y3 y4 y5 y6, LeO (airchecklaw01_WireUnique.j1 k y0 y1 y2 y3 y4 y5 y6) (airchecklaw01_WireUnique.j1 (k + 1) y0 y1 y2 y3 y4 y5 y6))
  | 0 => ⟨fun _ _ _ _ _ r h => by simp [airchecklaw01_WireUnique.l0] at h, fun _ _ _ _ _ _ _ r h => by simp [airchecklaw01_WireUnique.j1] at h⟩
  | k + 1 => by
    obtain ⟨ih0, ih1⟩ := airchecklaw01_WireUnique.mono_l k
    refine ⟨?_, ?_⟩
    · intro y0 y1 y2 y3 y4
      unfold airchecklaw01_WireUnique.l0
      repeat' first
      | (with_reducible exact ih0 _ _ _ _ _)
      | (with_reducible exact ih1 _ _ _ _ _ _ _)
      | (with_reducible exact airchecklaw01_sane.mono _)
      | (with_reducible exact wire_Int.mono _ _ _)
      | (with_reducible exact wire_String.mono _ _ _)
      | (with_reducible exact LeO.refl _)
      | (with_reducible exact LeO.none _)
      | (with_reducible refine LeO.ite ?_ ?_)
      | (with_reducible refine LeO.bind ?_ (fun _ => ?_))
      | exact ih0 _ _ _ _ _
      | exact ih1 _ _ _ _ _ _ _
      | exact airchecklaw01_sane.mono _
      | exact wire_Int.mono _ _ _
      | exact wire_String.mono _ _ _
      | exact LeO.none _
      | refine LeO.ite ?_ ?_
      | refine LeO.bind ?_ (fun _ => ?_)
    · intro y0 y1 y2 y3 y4 y5 y6
      unfold airchecklaw01_WireUnique.j1
      repeat' first
      | (with_reducible exact ih0 _ _ _ _ _)
      | (with_reducible exact ih1 _ _ _ _ _ _ _)
      | (with_reducible exact airchecklaw01_sane.mono _)
      | (with_reducible exact wire_Int.mono _ _ _)
      | (with_reducible exact wire_String.mono _ _ _)
      | (with_reducible exact LeO.refl _)
      | (with_reducible exact LeO.none _)
      | (with_reducible refine LeO.ite ?_ ?_)
      | (with_reducible refine LeO.bind ?_ (fun _ => ?_))
      | exact ih0 _ _ _ _ _
      | exact ih1 _ _ _ _ _ _ _
      | exact airchecklaw01_sane.mono _
      | exact wire_Int.mono _ _ _
      | exact wire_String.mono _ _ _
      | exact LeO.none _
      | refine LeO.ite ?_ ?_
      | refine LeO.bind ?_ (fun _ => ?_)
theorem airchecklaw01_WireUnique.mono : ∀ a0 a1 a2 k, LeO (airchecklaw01_WireUnique.f k a0 a1 a2) (airchecklaw01_WireUnique.f (k + 1) a0 a1 a2) := by
  intro a0 a1 a2 k
  obtain ⟨ih0, ih1⟩ := airchecklaw01_WireUnique.mono_l k
  unfold airchecklaw01_WireUnique.f
  repeat' first
      | (with_reducible exact ih0 _ _ _ _ _)
      | (with_reducible exact ih1 _ _ _ _ _ _ _)
      | (with_reducible exact airchecklaw01_sane.mono _)
      | (with_reducible exact wire_Int.mono _ _ _)
      | (with_reducible exact wire_String.mono _ _ _)
      | (with_reducible exact LeO.refl _)
      | (with_reducible exact LeO.none _)
      | (with_reducible refine LeO.ite ?_ ?_)
      | (with_reducible refine LeO.bind ?_ (fun _ => ?_))
      | exact ih0 _ _ _ _ _
      | exact ih1 _ _ _ _ _ _ _
      | exact airchecklaw01_sane.mono _
      | exact wire_Int.mono _ _ _
      | exact wire_String.mono _ _ _
      | exact LeO.none _
      | refine LeO.ite ?_ ?_
      | refine LeO.bind ?_ (fun _ => ?_)
def airchecklaw01_WireUnique.T2 : Bool × List (List Nat × List Nat) := (true, [([], []), ([0], [0]), ([1], [1]), ([], []), ([], []), ([4], [4]), ([5], [5]), ([3, 6], [3, 6]), ([2, 7], [2, 7]), ([8, 0, 1, 2, 3, 4, 5, 6, 7, 8], [8])])
def airchecklaw01_WireUnique.B2 : List Nat := [0, 1, 3, 0, 0, 16, 48, 120, 255, 511]
theorem airchecklaw01_WireUnique.tab2 : rtab .any (opsOf Tryd.f5 2) = airchecklaw01_WireUnique.T2 := by kernel_rfl
theorem airchecklaw01_WireUnique.bits2 : waitsOk airchecklaw01_WireUnique.T2.2 airchecklaw01_WireUnique.B2 = true := by kernel_rfl
set_option maxHeartbeats 8000000 in
set_option maxRecDepth 100000 in
theorem airchecklaw01_WireUnique.calls (k : Nat) (a0 : ByteArray) (a1 : Int) (a2 : Int) (r : Bool) (w : World) (hG : GL w) (h : airchecklaw01_WireUnique.f k a0 a1 a2 = some r) :
    Calls Tryd.prog 5 #[.string a0, .int .i64 a1, .int .u8 a2] w fun e w' => e = .returned (.bool r) ∧ Below w.heap.size w w' := by
  have HB := Aside0.mk (Below.refl w.heap.size w)
  have H : ((airchecklaw01_sane.f k).bind fun t200 => ((some (([a2] : List Int) : List Int)).bind fun y201 => (if 0 ≤ (mn (a0.size : Int) 300) then (if (mn (a0.size : Int) 300) ≤ (a0.size : Int) then (if (strOfNums y201).size + (a0.extract 0 ((mn (a0.size : Int) 300) : Int).toNat).size ≤ 9223372036854775807 then ((airchecklaw01_pick.f a1 (wrap64 ((((strOfNums y201) ++ (a0.extract 0 ((mn (a0.size : Int) 300) : Int).toNat)).size : Int) + 1))).bind fun t204 => ((some (([0, t204] : List Int) : List Int)).bind fun y205 => (airchecklaw01_WireUnique.l0 k t200 ((strOfNums y201) ++ (a0.extract 0 ((mn (a0.size : Int) 300) : Int).toNat)) y205 (y205.length : Int) 0))) else (none)) else (none)) else (none)))) = some r := h
  clear h
  replace H := Option.bind_eq_some_iff.mp H
  obtain ⟨t200, A40, H⟩ := H
  replace H : ((some (([a2] : List Int) : List Int)).bind fun y201 => (if 0 ≤ (mn (a0.size : Int) 300) then (if (mn (a0.size : Int) 300) ≤ (a0.size : Int) then (if (strOfNums y201).size + (a0.extract 0 ((mn (a0.size : Int) 300) : Int).toNat).size ≤ 9223372036854775807 then ((airchecklaw01_pick.f a1 (wrap64 ((((strOfNums y201) ++ (a0.extract 0 ((mn (a0.size : Int) 300) : Int).toNat)).size : Int) + 1))).bind fun t204 => ((some (([0, t204] : List Int) : List Int)).bind fun y205 => (airchecklaw01_WireUnique.l0 k t200 ((strOfNums y201) ++ (a0.extract 0 ((mn (a0.size : Int) 300) : Int).toNat)) y205 (y205.length : Int) 0))) else (none)) else (none)) else (none))) = some r := H
  have A4 := Aside0.mk A40
  clear A40
  obtain ⟨y201, hy201⟩ : ∃ y_ : List Int, y_ = (([a2] : List Int)) := ⟨_, rfl⟩
  replace H : (if 0 ≤ (mn (a0.size : Int) 300) then (if (mn (a0.size : Int) 300) ≤ (a0.size : Int) then (if (strOfNums y201).size + (a0.extract 0 ((mn (a0.size : Int) 300) : Int).toNat).size ≤ 9223372036854775807 then ((airchecklaw01_pick.f a1 (wrap64 ((((strOfNums y201) ++ (a0.extract 0 ((mn (a0.size : Int) 300) : Int).toNat)).size : Int) + 1))).bind fun t204 => ((some (([0, t204] : List Int) : List Int)).bind fun y205 => (airchecklaw01_WireUnique.l0 k t200 ((strOfNums y201) ++ (a0.extract 0 ((mn (a0.size : Int) 300) : Int).toNat)) y205 (y205.length : Int) 0))) else (none)) else (none)) else (none)) = some r := by first | (rw [hy201]; with_reducible exact H) | (have H2_ := (Option.bind_some _ _).symm.trans H; rw [hy201]; with_reducible exact H2_) | (have H2_ := (Option.bind_some _ _).symm.trans H; with_reducible exact H2_) | with_reducible exact H | (rw [hy201]; exact H) | exact H
  have Ny201 := Aside0.mk hy201
  clear hy201
  obtain ⟨ji5, hji5⟩ : ∃ j_ : Int, (mn (a0.size : Int) 300) = j_ := ⟨_, rfl⟩
  replace H : (if 0 ≤ (ji5) then (if (ji5) ≤ (a0.size : Int) then (if (strOfNums y201).size + (a0.extract 0 ((ji5) : Int).toNat).size ≤ 9223372036854775807 then ((airchecklaw01_pick.f a1 (wrap64 ((((strOfNums y201) ++ (a0.extract 0 ((ji5) : Int).toNat)).size : Int) + 1))).bind fun t204 => ((some (([0, t204] : List Int) : List Int)).bind fun y205 => (airchecklaw01_WireUnique.l0 k t200 ((strOfNums y201) ++ (a0.extract 0 ((ji5) : Int).toNat)) y205 (y205.length : Int) 0))) else (none)) else (none)) else (none)) = some r := by first | (rw [hji5] at H; exact H) | (simp only [hji5] at H ⊢; exact H)
  (try rw [hji5] at A4)
  (try (have hji5h : ji5 ≤ 300 := by (rw [← hji5]; unfold mn; (repeat' split) <;> omega)))
  (try (have hji5g : ji5 ≤ 64 := by omega))
  (try (have hji5l : 0 ≤ ji5 := by (rw [← hji5]; unfold mn; (repeat' split) <;> omega)))
  (try (have hji5m : 0 ≤ ji5 := by omega))
  have hji5_ : (if 300 < (a0.size : Int) then 300 else (a0.size : Int)) = ji5 := hji5
  by_cases c6 : 0 ≤ (ji5)
  · rw [if_pos c6] at H
    have c6b0 := eq_true c6
    have c6b1 : decide (0 ≤ (ji5)) = true := decide_eq_true c6
    clear c6
    by_cases c7 : (ji5) ≤ (a0.size : Int)
    · rw [if_pos c7] at H
      have c7b0 := eq_true c7
      have c7b1 : decide ((ji5) ≤ (a0.size : Int)) = true := decide_eq_true c7
      clear c7
      obtain ⟨js8, hjs8⟩ : ∃ s_ : ByteArray, (a0.extract 0 ((ji5) : Int).toNat) = s_ := ⟨_, rfl⟩
      replace H : (if (strOfNums y201).size + js8.size ≤ 9223372036854775807 then ((airchecklaw01_pick.f a1 (wrap64 ((((strOfNums y201) ++ js8).size : Int) + 1))).bind fun t204 => ((some (([0, t204] : List Int) : List Int)).bind fun y205 => (airchecklaw01_WireUnique.l0 k t200 ((strOfNums y201) ++ js8) y205 (y205.length : Int) 0))) else (none)) = some r := by first | (rw [hjs8] at H; exact H) | (simp only [hjs8] at H ⊢; exact H) | exact H
      by_cases c9 : (strOfNums y201).size + js8.size ≤ 9223372036854775807
      · rw [if_pos c9] at H
        have c9b0 := eq_true c9
        have c9b1 : decide ((strOfNums y201).size + js8.size ≤ 9223372036854775807) = true := decide_eq_true c9
        try have c9b2 : (9223372036854775807 < (strOfNums y201).size + js8.size) = False := eq_false (Nat.not_lt.2 c9)
        obtain ⟨js10, hjs10⟩ : ∃ s_ : ByteArray, ((strOfNums y201) ++ js8) = s_ := ⟨_, rfl⟩
        replace H : ((airchecklaw01_pick.f a1 (wrap64 ((js10.size : Int) + 1))).bind fun t204 => ((some (([0, t204] : List Int) : List Int)).bind fun y205 => (airchecklaw01_WireUnique.l0 k t200 js10 y205 (y205.length : Int) 0))) = some r := by first | (rw [hjs10] at H; exact H) | (simp only [hjs10] at H ⊢; exact H) | exact H
        replace H := Option.bind_eq_some_iff.mp H
        obtain ⟨t204, A110, H⟩ := H
        replace H : ((some (([0, t204] : List Int) : List Int)).bind fun y205 => (airchecklaw01_WireUnique.l0 k t200 js10 y205 (y205.length : Int) 0)) = some r := H
        have A11 := Aside0.mk A110
        clear A110
        obtain ⟨y205, hy205⟩ : ∃ y_ : List Int, y_ = (([0, t204] : List Int)) := ⟨_, rfl⟩
        replace H : (airchecklaw01_WireUnique.l0 k t200 js10 y205 (y205.length : Int) 0) = some r := by first | (rw [hy205]; with_reducible exact H) | (have H2_ := (Option.bind_some _ _).symm.trans H; rw [hy205]; with_reducible exact H2_) | (have H2_ := (Option.bind_some _ _).symm.trans H; with_reducible exact H2_) | with_reducible exact H | (rw [hy205]; exact H) | exact H
        have Ny205 := Aside0.mk hy205
        clear hy205
        have H' := Aside0.mk H
        clear H
        go_enter Tryd.func5, Tryd.ntmps5
        try go_wp2_with (first | ((with_reducible refine gate_callee (f := 10) rfl ?_); refine goesL_ (some 21) rfl rfl Tryd.func10 (by kernel_rfl) rfl #[] rfl (by (try simp only [List.map_toArray, List.map_cons, List.map_nil]); first | done | rfl | (simp only [List.length_drop, List.length_take]; rfl)) ?_; (with_reducible refine (airchecklaw01_sane.calls k  t200 _ ?side1 A4.out).mono ?_); (case side1 => first | exact hG | exact GL.below hG (by repeat (first | (with_reducible first | exact HB.out | apply below_alloc | apply pw_below_drewN | apply below_drew1) | exact HB.out))); rintro e w12 ⟨rfl, hb⟩; refine ⟨_, rfl, ?_⟩; have n0_ := Aside0.mk (below_step (by repeat (first | (with_reducible first | exact HB.out | apply below_alloc | apply pw_below_drewN | apply below_drew1) | exact HB.out)) hb); clear HB; have HB := n0_; clear n0_; (try clear hb); (try clear hb2); (try clear hk); (try clear hi)))
        have n0_ := Aside0.mk (below_drew1 HB.out)
        clear HB
        have HB := n0_
        clear n0_
        refine start_ (n := 10) (S := fun w' => True) (ds := []) #[false, false, false, false, false, false, false, false, false, false] (by kernel_rfl) rfl rfl trivial (fun hHeld => ?_); refine with_tabW airchecklaw01_WireUnique.tab2 airchecklaw01_WireUnique.bits2 (fun HT_ HW_ => ?_)
        generalize w12.drew = w13 at HB hHeld ⊢
        refine pure_ (i := 0) (N := some 22) (v := ?_) (a' := ?_) #[true, false, false, false, false, false, false, false, false, false] rfl rfl (any_of HT_.out (by kernel_rfl)) (fun _ _ _ h => h) (Or.inl ⟨by rfl, ?_⟩) ?_ ?_
        rotate_left
        · intro w'
          go_simp
          with_reducible rfl
        rotate_left
        · simp only [Act.put, List.setIfInBounds_toArray, List.set_cons_zero, List.set_cons_succ, i64_w, i32_w]
          rfl
        refine pure_ (i := 3) (N := some 25) (v := ?_) (a' := ?_) #[true, false, false, true, false, false, false, false, false, false] rfl rfl (any_of HT_.out (by kernel_rfl)) (fun _ _ _ h => h) (Or.inl ⟨by rfl, ?_⟩) ?_ ?_
        rotate_left
        · intro w'
          go_simp
          with_reducible rfl
        rotate_left
        · simp only [Act.put, List.setIfInBounds_toArray, List.set_cons_zero, List.set_cons_succ, i64_w, i32_w]
          rfl
        refine pure_ (i := 4) (N := some 26) (v := ?_) (a' := ?_) #[true, false, false, true, true, false, false, false, false, false] rfl rfl (any_of HT_.out (by kernel_rfl)) (fun _ _ _ h => h) (Or.inl ⟨by rfl, ?_⟩) ?_ ?_
        rotate_left
        · intro w'
          go_simp
          with_reducible rfl
        rotate_left
        · simp only [Act.put, List.setIfInBounds_toArray, List.set_cons_zero, List.set_cons_succ, i64_w, i32_w]
          rfl
        refine pure_ (i := 5) (N := some 27) (v := ?_) (a' := ?_) #[true, false, false, true, true, true, false, false, false, false] rfl rfl (any_of HT_.out (by kernel_rfl)) (fun _ _ _ h => h) (Or.inl ⟨by rfl, ?_⟩) ?_ ?_
        rotate_left
        · intro w'
          go_simp
          with_reducible rfl
        rotate_left
        · simp only [Act.put, List.setIfInBounds_toArray, List.set_cons_zero, List.set_cons_succ, i64_w, i32_w]
          rfl
        refine pure_ (i := 6) (N := some 28) (v := ?_) (a' := ?_) #[true, false, false, true, true, true, true, false, false, false] rfl rfl (any_of HT_.out (by kernel_rfl)) (fun _ _ _ h => h) (Or.inl ⟨by rfl, ?_⟩) ?_ ?_
        rotate_left
        · intro w'
          go_simp
          with_reducible rfl
        rotate_left
        · simp only [Act.put, List.setIfInBounds_toArray, List.set_cons_zero, List.set_cons_succ, i64_w, i32_w]
          rfl
        refine pure_ (i := 7) (N := some 29) (v := ?_) (a' := ?_) #[true, false, false, true, true, true, true, true, false, false] rfl rfl (any_of HT_.out (by kernel_rfl)) (fun _ _ _ h => h) (Or.inl ⟨by rfl, ?_⟩) ?_ ?_
        rotate_left
        · intro w'
          go_simp
          with_reducible rfl
        rotate_left
        · simp only [Act.put, List.setIfInBounds_toArray, List.set_cons_zero, List.set_cons_succ, i64_w, i32_w]
          rfl
        refine one_ (i := 1) (N := some 23) #[true, true, false, true, true, true, true, true, false, false] rfl rfl (one_of HT_.out (by kernel_rfl)) (by decide) (fun K hK => ?_)
        refine Kd.R_lit_step (Kd.int .u8) _ 5 ?hg (N := 23) ?hd (xs := ([a2] : List Int)) (inner := [.int .u8 a2]) (ok := fun _ => True) (okp := fun _ => True) ?hr ?hp (fun _ hk => hk) trivial (Below.refl _ _) (Nat.le_refl _) (by simp) ?_; (case hd => rfl); (case hg => rfl); (case hr => first | (go_simp; done) | (go_simp; rfl)); (case hp => exact (Reps.one (show Kd.M (Kd.int .u8) _ _ _ a2 [.int .u8 a2] from rfl) (Reps.none _ _)))
        intro v202 w14 ho15 hb hg_ hnew_
        clear hg_ hnew_
        (first | rw [← Ny201.out] at ho15 | (simp only [Int.reduceToNat] at ho15; rw [← Ny201.out] at ho15))
        have n0_ := Aside0.mk (Kd.R_lower ho15 (below_size (by repeat (first | (with_reducible first | exact HB.out | apply below_alloc | apply pw_below_drewN | apply below_drew1) | exact HB.out))))
        have n1_ := Aside0.mk (below_step (by repeat (first | (with_reducible first | exact HB.out | apply below_alloc | apply pw_below_drewN | apply below_drew1) | exact HB.out)) hb)
        clear HB
        have HO203 := n0_
        have HB := n1_
        clear n0_ n1_
        clear hb ho15
        refine hK.out _ _ trivial (fun hHeld => ?_)
        clear hK K
        refine norm_ (a' := ?_) ?_ ?_
        rotate_left
        · show Act.put _ (some 23) _ = _
          simp only [Act.put, List.setIfInBounds_toArray, List.set_cons_zero, List.set_cons_succ, i64_w, i32_w]
          rfl
        refine one_ (i := 2) (N := some 24) #[true, true, true, true, true, true, true, true, false, false] rfl rfl (one_of HT_.out (by kernel_rfl)) (by decide) (fun K hK => ?_)
        have hcv16 := own_string (P := Tryd.prog) Tryd.underlying38 Tryd.underlying5 Tryd.underlying9 (Kd.own_of_R HO203.out)
        refine value_ (w1 := ?_) (v := ?_) (by rfl) rfl ?_ ?_
        rotate_left 2
        · go_simp
          constructor
          · rfl
          · rfl
        clear hcv16
        refine hK.out _ _ trivial (fun hHeld => ?_)
        clear hK K
        refine norm_ (a' := ?_) ?_ ?_
        rotate_left
        · show Act.put _ (some 24) _ = _
          simp only [Act.put, List.setIfInBounds_toArray, List.set_cons_zero, List.set_cons_succ, i64_w, i32_w]
          rfl
        refine pure_ (i := 8) (N := some 30) (v := ?_) (a' := ?_) #[true, true, true, true, true, true, true, true, true, false] rfl rfl (any_of HT_.out (by kernel_rfl)) (fun _ _ _ h => h) (Or.inl ⟨by rfl, ?_⟩) ?_ ?_
        rotate_left
        · intro w'
          go_simp
          with_reducible rfl
        rotate_left
        · simp only [Act.put, List.setIfInBounds_toArray, List.set_cons_zero, List.set_cons_succ, i64_w, i32_w]
          rfl
        refine pure_ (i := 9) (N := some 8) (v := ?_) (a' := ?_) #[true, true, true, true, true, true, true, true, true, true] rfl rfl (any_of HT_.out (by kernel_rfl)) (fun _ _ _ h => h) (Or.inl ⟨by rfl, ?_⟩) ?_ ?_
        rotate_left
        · intro w'
          go_simp
          with_reducible rfl
        rotate_left
        · simp only [Act.put, List.setIfInBounds_toArray, List.set_cons_zero, List.set_cons_succ, i64_w, i32_w]
          rfl
        refine done_ (done_of HT_.out (by kernel_rfl)) ?_
        try go_wp2_with (first | ((with_reducible refine gate_callee (f := 14) rfl ?_); refine goesL_ (some 35) rfl rfl Tryd.func14 (by kernel_rfl) rfl #[.int .i64 a1, .int .i64 (wrap64 ((js10.size : Int) + 1))] rfl (by (try simp only [List.map_toArray, List.map_cons, List.map_nil]); first | done | rfl | (simp only [List.length_drop, List.length_take]; rfl)) ?_; (with_reducible refine (airchecklaw01_pick.calls a1 (wrap64 ((js10.size : Int) + 1)) t204 _ A11.out).mono ?_); rintro e w' ⟨rfl, ⟨nd, rfl⟩⟩; refine ⟨_, rfl, ?_⟩) | ((with_reducible refine gate_dst (N := 36) rfl ?_); (try (refine gate_guard (by rfl) ?_; dsimp only)); refine Kd.R_lit (Kd.int .i64) _ 3 ?hg (N := 36) ?hd (xs := ([0, t204] : List Int)) (inner := [.int .i64 0, .int .i64 t204]) (ok := fun _ => True) (okp := fun _ => True) ?hr ?hp (fun _ hk => hk) trivial (Below.refl _ _) (Nat.le_refl _) (by simp) ?_; (case hd => rfl); (case hg => rfl); (case hr => first | (go_simp; done) | (go_simp; rfl)); (case hp => exact (Reps.one (show Kd.M (Kd.int .i64) _ _ _ 0 [.int .i64 0] from rfl) (Reps.one (show Kd.M (Kd.int .i64) _ _ _ t204 [.int .i64 t204] from rfl) (Reps.none _ _)))); intro v206 w17 ho18 hb hg_ hnew_; clear hg_ hnew_; (first | rw [← Ny205.out] at ho18 | (simp only [Int.reduceToNat] at ho18; rw [← Ny205.out] at ho18)); have n0_ := Aside0.mk (Kd.R_below (by (with_reducible repeat (first | apply Kd.R_alloc | apply Kd.R_drewN | apply Kd.R_drew)); exact HO203.out) hb); have n1_ := Aside0.mk (Kd.R_lower ho18 (below_size (by repeat (first | (with_reducible first | exact HB.out | apply below_alloc | apply pw_below_drewN | apply below_drew1) | exact HB.out)))); have n2_ := Aside0.mk (below_step (by repeat (first | (with_reducible first | exact HB.out | apply below_alloc | apply pw_below_drewN | apply below_drew1) | exact HB.out)) hb); clear HO203; clear HB; have HO203 := n0_; have HO207 := n1_; have HB := n2_; clear n0_ n1_ n2_; clear hb ho18; obtain ⟨Ao19, co19, eo19⟩ := Kd.R_slice HO207.out; subst eo19))
        go_loopg [38] k (fun kq v38 w' => ∃ (x38_1 : Int), v38 = .int .i64 x38_1 ∧ Aside0 (airchecklaw01_WireUnique.l0 kq t200 js10 y205 (y205.length : Int) x38_1 = some r) ∧ Aside0 (kq ≤ k) ∧ Aside0 (Kd.R (Kd.int .i64) 3 w' w.heap.size (fun _ => True) (.slice Ao19 y205.length co19) y205) ∧ Aside0 (Below w.heap.size w w'))
        case atStart => exact ⟨(0), (by first | rfl | (simp; done) | (simp [*]; done)), H', ⟨Nat.le_refl _⟩, ⟨by (with_reducible repeat (first | apply Kd.R_alloc | apply Kd.R_drewN | apply Kd.R_drew)); exact HO207.out⟩, ⟨by repeat (first | (with_reducible first | exact HB.out | apply below_alloc | apply pw_below_drewN | apply below_drew1) | exact HB.out)⟩⟩
        case round =>
          clear H'
          try clear c1
          try clear hcv1
          try clear p2
          try clear c5
          try clear c6
          try clear c6b0
          try clear c6b1
          try clear p6
          try clear c7
          try clear c7b0
          try clear c7b1
          try clear c9
          try clear c9b0
          try clear c9b1
          try clear c9b2
          try clear c10
          try clear c14
          try clear hcv16
          obtain ⟨x38_1, rfl, HA, HK1, HO_36, HB⟩ := hrel
          cases gk with
          | zero => exact absurd HA.out (by simp [airchecklaw01_WireUnique.l0])
          | succ k1 =>
            have H := HA.out
            clear HA
            simp only [airchecklaw01_WireUnique.l0] at H
            by_cases c20 : x38_1 < (y205.length : Int)
            · rw [if_pos c20] at H
              have c20b0 : decide (x38_1 < (y205.length : Int)) = true := decide_eq_true c20
              clear c20
              by_cases c21 : 0 ≤ x38_1
              · rw [if_pos c21] at H
                have c21b0 : decide (0 ≤ x38_1) = true := decide_eq_true c21
                clear c21
                by_cases c22 : x38_1 < (y205.length : Int)
                · rw [if_pos c22] at H
                  have c22b0 : decide (x38_1 < (y205.length : Int)) = true := decide_eq_true c22
                  clear c22
                  replace H := Option.bind_eq_some_iff.mp H
                  obtain ⟨⟨t209, t210, t211⟩, A230, H⟩ := H
                  replace H : ((wire_PutInt.f t209).bind fun bt212 => (if t211 = 0 then (if bt212.2 = 0 then (if t210 < (rd y205 x38_1) then (airchecklaw01_WireUnique.j1 k1 t200 js10 (rd y205 x38_1) y205 (y205.length : Int) x38_1 true) else (if t210 > (js10.size : Int) then (airchecklaw01_WireUnique.j1 k1 t200 js10 (rd y205 x38_1) y205 (y205.length : Int) x38_1 true) else (if 0 ≤ (rd y205 x38_1) then (if (rd y205 x38_1) ≤ t210 then (if t210 ≤ (js10.size : Int) then (if (js10.extract ((rd y205 x38_1) : Int).toNat (t210 : Int).toNat).toList = bt212.1.toList then (airchecklaw01_WireUnique.j1 k1 t200 js10 (rd y205 x38_1) y205 (y205.length : Int) x38_1 false) else (airchecklaw01_WireUnique.j1 k1 t200 js10 (rd y205 x38_1) y205 (y205.length : Int) x38_1 true)) else (none)) else (none)) else (none)))) else (airchecklaw01_WireUnique.j1 k1 t200 js10 (rd y205 x38_1) y205 (y205.length : Int) x38_1 true)) else (if t211 = 10 then (if t209 = 0 then (airchecklaw01_WireUnique.j1 k1 t200 js10 (rd y205 x38_1) y205 (y205.length : Int) x38_1 (t210 != 0)) else (airchecklaw01_WireUnique.j1 k1 t200 js10 (rd y205 x38_1) y205 (y205.length : Int) x38_1 true)) else (airchecklaw01_WireUnique.j1 k1 t200 js10 (rd y205 x38_1) y205 (y205.length : Int) x38_1 true)))) = some r := H
                  have A23 := Aside0.mk A230
                  clear A230
                  replace H := Option.bind_eq_some_iff.mp H
                  obtain ⟨⟨t212, t213⟩, A240, H⟩ := H
                  replace H : (if t211 = 0 then (if t213 = 0 then (if t210 < (rd y205 x38_1) then (airchecklaw01_WireUnique.j1 k1 t200 js10 (rd y205 x38_1) y205 (y205.length : Int) x38_1 true) else (if t210 > (js10.size : Int) then (airchecklaw01_WireUnique.j1 k1 t200 js10 (rd y205 x38_1) y205 (y205.length : Int) x38_1 true) else (if 0 ≤ (rd y205 x38_1) then (if (rd y205 x38_1) ≤ t210 then (if t210 ≤ (js10.size : Int) then (if (js10.extract ((rd y205 x38_1) : Int).toNat (t210 : Int).toNat).toList = t212.toList then (airchecklaw01_WireUnique.j1 k1 t200 js10 (rd y205 x38_1) y205 (y205.length : Int) x38_1 false) else (airchecklaw01_WireUnique.j1 k1 t200 js10 (rd y205 x38_1) y205 (y205.length : Int) x38_1 true)) else (none)) else (none)) else (none)))) else (airchecklaw01_WireUnique.j1 k1 t200 js10 (rd y205 x38_1) y205 (y205.length : Int) x38_1 true)) else (if t211 = 10 then (if t209 = 0 then (airchecklaw01_WireUnique.j1 k1 t200 js10 (rd y205 x38_1) y205 (y205.length : Int) x38_1 (t210 != 0)) else (airchecklaw01_WireUnique.j1 k1 t200 js10 (rd y205 x38_1) y205 (y205.length : Int) x38_1 true)) else (airchecklaw01_WireUnique.j1 k1 t200 js10 (rd y205 x38_1) y205 (y205.length : Int) x38_1 true))) = some r := H
                  have A24 := Aside0.mk A240
                  clear A240
                  have HC25 := Aside0.mk H
                  clear H
                  have p208 : 0 ≤ (x38_1 : Int) := of_decide_eq_true (by first | (with_reducible assumption) | assumption)
                  have q208 : x38_1 < (y205.length : Int) := of_decide_eq_true (by first | (with_reducible assumption) | assumption)
                  obtain ⟨ad208, e208, hx208_0⟩ := Kd.at_int (Kd.R_reads' HO_36.out).2.2 x38_1 p208 q208
                  cases e208
                  replace p208 := eq_true p208
                  replace q208 := eq_true q208
                  go_upto_region 8 with (first | ((with_reducible refine gate_callee (f := 15) rfl ?_); refine goesL_ (some 45) rfl rfl Tryd.func15 (by kernel_rfl) rfl #[.string js10, .int .i64 (rd y205 x38_1)] rfl (by (try simp only [List.map_toArray, List.map_cons, List.map_nil]); first | done | rfl | (simp only [List.length_drop, List.length_take]; rfl)) ?_; (with_reducible refine (wire_Int.calls k1 js10 (rd y205 x38_1) t209 t210 t211 _ A23.out).mono ?_); rintro e w' ⟨rfl, ⟨nd, rfl⟩⟩; refine ⟨_, rfl, ?_⟩) | ((with_reducible refine gate_callee (f := 12) rfl ?_); refine goesL_ (some 51) rfl rfl Tryd.func12 (by kernel_rfl) rfl #[.int .i64 t209] rfl (by (try simp only [List.map_toArray, List.map_cons, List.map_nil]); first | done | rfl | (simp only [List.length_drop, List.length_take]; rfl)) ?_; (with_reducible refine (wire_PutInt.calls t209 t212 t213 _ A24.out).mono ?_); rintro e w26 ⟨rfl, hb⟩; refine ⟨_, rfl, ?_⟩; have n0_ := Aside0.mk (Kd.R_below (by (with_reducible repeat (first | apply Kd.R_alloc | apply Kd.R_drewN | apply Kd.R_drew)); exact HO_36.out) hb); have n1_ := Aside0.mk (below_step (by repeat (first | (with_reducible first | exact HB.out | apply below_alloc | apply pw_below_drewN | apply below_drew1) | exact HB.out)) hb); clear HO_36; clear HB; have HO_36 := n0_; have HB := n1_; clear n0_ n1_; (try clear hb); (try clear hb2); (try clear hk); (try clear hi)))
                  (try simp only [Act.put, List.setIfInBounds_toArray, List.set_cons_zero, List.set_cons_succ])
                  go_cut [94] (fun v94 wc => ∃ (kq : Nat) (x94_24 : Bool), v94 = .bool x94_24 ∧ Aside0 (airchecklaw01_WireUnique.j1 kq t200 js10 (rd y205 x38_1) y205 (y205.length : Int) x38_1 x94_24 = some r) ∧ Aside0 (kq ≤ k1) ∧ Aside0 (Kd.R (Kd.int .i64) 3 wc w.heap.size (fun _ => True) (.slice (some ad208) y205.length co19) y205) ∧ Aside0 (Below w.heap.size w wc))
                  case first =>
                    have H := HC25.out
                    clear HC25
                    by_cases c27 : t211 = 0
                    · rw [if_pos c27] at H
                      have c27b0 : (t211 == 0) = true := beq_iff_eq.mpr c27
                      have c27b1 : (t211 != 0) = false := bne_eq_false_iff_eq.mpr c27
                      clear c27
                      (first | rw [c27b0] | (simp only [i64_w, i32_w]; rw [c27b0]) | skip)
                      by_cases c28 : t213 = 0
                      · rw [if_pos c28] at H
                        have c28b0 : (t213 == 0) = true := beq_iff_eq.mpr c28
                        have c28b1 : (t213 != 0) = false := bne_eq_false_iff_eq.mpr c28
                        clear c28
                        by_cases c29 : t210 < (rd y205 x38_1)
                        · rw [if_pos c29] at H
                          have c29b0 : decide (t210 < (rd y205 x38_1)) = true := decide_eq_true c29
                          clear c29
                          have H' := Aside0.mk H
                          clear H
                          go_wp2
                          go_meet
                          case rel => exact ⟨_, (true), (by first | rfl | (simp; done) | (simp [*]; done)), H', ⟨by have := HK1.out; first | omega | exact Nat.le_refl _⟩, ⟨by (with_reducible repeat (first | apply Kd.R_alloc | apply Kd.R_drewN | apply Kd.R_drew)); exact HO_36.out⟩, ⟨by repeat (first | (with_reducible first | exact HB.out | apply below_alloc | apply pw_below_drewN | apply below_drew1) | exact HB.out)⟩⟩
                        · rw [if_neg c29] at H
                          have c29b0 : decide (t210 < (rd y205 x38_1)) = false := decide_eq_false c29
                          clear c29
                          by_cases c30 : t210 > (js10.size : Int)
                          · rw [if_pos c30] at H
                            have c30b0 : decide ((js10.size : Int) < t210) = true := decide_eq_true c30
                            clear c30
                            have H' := Aside0.mk H
                            clear H
                            go_wp2
                            go_meet
                            case rel => exact ⟨_, (true), (by first | rfl | (simp; done) | (simp [*]; done)), H', ⟨by have := HK1.out; first | omega | exact Nat.le_refl _⟩, ⟨by (with_reducible repeat (first | apply Kd.R_alloc | apply Kd.R_drewN | apply Kd.R_drew)); exact HO_36.out⟩, ⟨by repeat (first | (with_reducible first | exact HB.out | apply below_alloc | apply pw_below_drewN | apply below_drew1) | exact HB.out)⟩⟩
                          · rw [if_neg c30] at H
                            have c30b0 : decide ((js10.size : Int) < t210) = false := decide_eq_false c30
                            clear c30
                            by_cases c31 : 0 ≤ (rd y205 x38_1)
                            · rw [if_pos c31] at H
                              have c31b0 := eq_true c31
                              have c31b1 : decide (0 ≤ (rd y205 x38_1)) = true := decide_eq_true c31
                              clear c31
                              by_cases c32 : (rd y205 x38_1) ≤ t210
                              · rw [if_pos c32] at H
                                have c32b0 := eq_true c32
                                have c32b1 : decide ((rd y205 x38_1) ≤ t210) = true := decide_eq_true c32
                                clear c32
                                by_cases c33 : t210 ≤ (js10.size : Int)
                                · rw [if_pos c33] at H
                                  have c33b0 := eq_true c33
                                  have c33b1 : decide (t210 ≤ (js10.size : Int)) = true := decide_eq_true c33
                                  clear c33
                                  obtain ⟨js34, hjs34⟩ : ∃ s_ : ByteArray, (js10.extract ((rd y205 x38_1) : Int).toNat (t210 : Int).toNat) = s_ := ⟨_, rfl⟩
                                  replace H : (if js34.toList = t212.toList then (airchecklaw01_WireUnique.j1 k1 t200 js10 (rd y205 x38_1) y205 (y205.length : Int) x38_1 false) else (airchecklaw01_WireUnique.j1 k1 t200 js10 (rd y205 x38_1) y205 (y205.length : Int) x38_1 true)) = some r := by first | (rw [hjs34] at H; exact H) | (simp only [hjs34] at H ⊢; exact H) | exact H
                                  by_cases c35 : js34.toList = t212.toList
                                  · rw [if_pos c35] at H
                                    have c35b0 : (js34.toList == t212.toList) = true := beq_iff_eq.mpr c35
                                    have c35b1 : (js34.toList != t212.toList) = false := bne_eq_false_iff_eq.mpr c35
                                    clear c35
                                    have H' := Aside0.mk H
                                    clear H
                                    go_wp2
                                    go_meet
                                    case rel => exact ⟨_, (false), (by first | rfl | (simp; done) | (simp [*]; done)), H', ⟨by have := HK1.out; first | omega | exact Nat.le_refl _⟩, ⟨by (with_reducible repeat (first | apply Kd.R_alloc | apply Kd.R_drewN | apply Kd.R_drew)); exact HO_36.out⟩, ⟨by repeat (first | (with_reducible first | exact HB.out | apply below_alloc | apply pw_below_drewN | apply below_drew1) | exact HB.out)⟩⟩
                                  · rw [if_neg c35] at H
                                    have c35b0 : (js34.toList == t212.toList) = false := beq_eq_false_iff_ne.mpr c35
                                    have c35b1 : (js34.toList != t212.toList) = true := bne_iff_ne.mpr c35
                                    have H' := Aside0.mk H
                                    clear H
                                    go_wp2
                                    go_meet
                                    case rel => exact ⟨_, (true), (by first | rfl | (simp; done) | (simp [*]; done)), H', ⟨by have := HK1.out; first | omega | exact Nat.le_refl _⟩, ⟨by (with_reducible repeat (first | apply Kd.R_alloc | apply Kd.R_drewN | apply Kd.R_drew)); exact HO_36.out⟩, ⟨by repeat (first | (with_reducible first | exact HB.out | apply below_alloc | apply pw_below_drewN | apply below_drew1) | exact HB.out)⟩⟩
                                · rw [if_neg c33] at H
                                  exact absurd H (by simp)
                              · rw [if_neg c32] at H
                                exact absurd H (by simp)
                            · rw [if_neg c31] at H
                              exact absurd H (by simp)
                      · rw [if_neg c28] at H
                        have c28b0 : (t213 == 0) = false := beq_eq_false_iff_ne.mpr c28
                        have c28b1 : (t213 != 0) = true := bne_iff_ne.mpr c28
                        have H' := Aside0.mk H
                        clear H
                        go_wp2
                        go_meet
                        case rel => exact ⟨_, (true), (by first | rfl | (simp; done) | (simp [*]; done)), H', ⟨by have := HK1.out; first | omega | exact Nat.le_refl _⟩, ⟨by (with_reducible repeat (first | apply Kd.R_alloc | apply Kd.R_drewN | apply Kd.R_drew)); exact HO_36.out⟩, ⟨by repeat (first | (with_reducible first | exact HB.out | apply below_alloc | apply pw_below_drewN | apply below_drew1) | exact HB.out)⟩⟩
                    · rw [if_neg c27] at H
                      have c27b0 : (t211 == 0) = false := beq_eq_false_iff_ne.mpr c27
                      have c27b1 : (t211 != 0) = true := bne_iff_ne.mpr c27
                      (first | rw [c27b0] | (simp only [i64_w, i32_w]; rw [c27b0]) | skip)
                      by_cases c36 : t211 = 10
                      · rw [if_pos c36] at H
                        have c36b0 : (t211 == 10) = true := beq_iff_eq.mpr c36
                        have c36b1 : (t211 != 10) = false := bne_eq_false_iff_eq.mpr c36
                        clear c36
                        by_cases c37 : t209 = 0
                        · rw [if_pos c37] at H
                          have c37b0 : (t209 == 0) = true := beq_iff_eq.mpr c37
                          have c37b1 : (t209 != 0) = false := bne_eq_false_iff_eq.mpr c37
                          clear c37
                          have H' := Aside0.mk H
                          clear H
                          go_wp2
                          go_meet
                          case rel => exact ⟨_, ((t210 != 0)), (by first | rfl | (simp; done) | (simp [*]; done)), H', ⟨by have := HK1.out; first | omega | exact Nat.le_refl _⟩, ⟨by (with_reducible repeat (first | apply Kd.R_alloc | apply Kd.R_drewN | apply Kd.R_drew)); exact HO_36.out⟩, ⟨by repeat (first | (with_reducible first | exact HB.out | apply below_alloc | apply pw_below_drewN | apply below_drew1) | exact HB.out)⟩⟩
                        · rw [if_neg c37] at H
                          have c37b0 : (t209 == 0) = false := beq_eq_false_iff_ne.mpr c37
                          have c37b1 : (t209 != 0) = true := bne_iff_ne.mpr c37
                          have H' := Aside0.mk H
                          clear H
                          go_wp2
                          go_meet
                          case rel => exact ⟨_, (true), (by first | rfl | (simp; done) | (simp [*]; done)), H', ⟨by have := HK1.out; first | omega | exact Nat.le_refl _⟩, ⟨by (with_reducible repeat (first | apply Kd.R_alloc | apply Kd.R_drewN | apply Kd.R_drew)); exact HO_36.out⟩, ⟨by repeat (first | (with_reducible first | exact HB.out | apply below_alloc | apply pw_below_drewN | apply below_drew1) | exact HB.out)⟩⟩
                      · rw [if_neg c36] at H
                        have c36b0 : (t211 == 10) = false := beq_eq_false_iff_ne.mpr c36
                        have c36b1 : (t211 != 10) = true := bne_iff_ne.mpr c36
                        have H' := Aside0.mk H
                        clear H
                        go_wp2
                        go_meet
                        case rel => exact ⟨_, (true), (by first | rfl | (simp; done) | (simp [*]; done)), H', ⟨by have := HK1.out; first | omega | exact Nat.le_refl _⟩, ⟨by (with_reducible repeat (first | apply Kd.R_alloc | apply Kd.R_drewN | apply Kd.R_drew)); exact HO_36.out⟩, ⟨by repeat (first | (with_reducible first | exact HB.out | apply below_alloc | apply pw_below_drewN | apply below_drew1) | exact HB.out)⟩⟩
                  case rest =>
                    clear HC25
                    try clear c1
                    try clear hcv1
                    try clear c2
                    try clear p2
                    try clear q2
                    try clear hx2
                    try clear c3
                    try clear c5
                    try clear c6
                    try clear c6b0
                    try clear c6b1
                    try clear p6
                    try clear c7
                    try clear c7b0
                    try clear c7b1
                    try clear c9
                    try clear c9b0
                    try clear c9b1
                    try clear c9b2
                    try clear c10
                    try clear c12
                    try clear c14
                    try clear c15
                    try clear hcv16
                    try clear c20
                    try clear c20b0
                    try clear p20
                    try clear q20
                    try clear hx20
                    try clear c21
                    try clear c21b0
                    try clear c22
                    try clear c22b0
                    try clear c27
                    try clear c27b0
                    try clear c27b1
                    try clear c28
                    try clear c28b0
                    try clear c28b1
                    try clear c29
                    try clear c29b0
                    try clear c30
                    try clear c30b0
                    try clear c31
                    try clear c31b0
                    try clear c31b1
                    try clear c32
                    try clear c32b0
                    try clear c32b1
                    try clear c33
                    try clear c33b0
                    try clear c33b1
                    try clear c35
                    try clear c35b0
                    try clear c35b1
                    try clear c36
                    try clear c36b0
                    try clear c36b1
                    try clear c37
                    try clear c37b0
                    try clear c37b1
                    try clear hx208_0
                    try clear p2
                    try clear p208
                    try clear p6
                    try clear q208
                    obtain ⟨kq, x94_24, rfl, HA, HJ24, HO_36, HB⟩ := hcut
                    cases kq with
                    | zero => exact absurd HA.out (by simp [airchecklaw01_WireUnique.j1])
                    | succ kj24 =>
                      have H := HA.out
                      clear HA
                      simp only [airchecklaw01_WireUnique.j1] at H
                      by_cases c38 : x94_24 = true
                      · subst c38
                        have H1 : (some false) = some r := by rw [if_pos rfl] at H; exact H
                        clear H
                        have H := H1
                        clear H1
                        obtain rfl := Option.some.inj H
                        go_wp2
                        go_ret
                        exact ⟨by first | rfl | (simp [errW_none, errW_some] <;> rfl) | (simp only [← hji5, ← hjs8, ← hjs10]; first | rfl | (simp [errW_none, errW_some] <;> rfl)) | (simp [*, errW_none, errW_some] <;> rfl), by repeat (first | (with_reducible first | exact HB.out | apply below_alloc | apply pw_below_drewN | apply below_drew1) | exact HB.out)⟩
                      · replace c38 := Bool.eq_false_iff.mpr c38
                        subst c38
                        have H1 : ((wire_String.f kj24 js10 (rd y205 x38_1)).bind fun bt214 => ((wire_PutString.f bt214.1).bind fun bt217 => (if bt214.2.2 = 0 then (if bt217.2 = 0 then (if bt214.2.1 < (rd y205 x38_1) then (some false) else (if bt214.2.1 > (js10.size : Int) then (some false) else (if 0 ≤ (rd y205 x38_1) then (if (rd y205 x38_1) ≤ bt214.2.1 then (if bt214.2.1 ≤ (js10.size : Int) then (if (js10.extract ((rd y205 x38_1) : Int).toNat (bt214.2.1 : Int).toNat).toList = bt217.1.toList then (airchecklaw01_WireUnique.l0 kj24 t200 js10 y205 (y205.length : Int) (wrap64 (x38_1 + 1))) else (some false)) else (none)) else (none)) else (none)))) else (some false)) else (if bt214.2.2 = 10 then (if bt214.1.toList = ([] : List UInt8) then (if bt214.2.1 = 0 then (airchecklaw01_WireUnique.l0 kj24 t200 js10 y205 (y205.length : Int) (wrap64 (x38_1 + 1))) else (some false)) else (some false)) else (some false))))) = some r := by rw [if_neg (show ¬ (false = true) by decide)] at H; exact H
                        clear H
                        have H := H1
                        clear H1
                        replace H := Option.bind_eq_some_iff.mp H
                        obtain ⟨⟨t214, t215, t216⟩, A390, H⟩ := H
                        replace H : ((wire_PutString.f t214).bind fun bt217 => (if t216 = 0 then (if bt217.2 = 0 then (if t215 < (rd y205 x38_1) then (some false) else (if t215 > (js10.size : Int) then (some false) else (if 0 ≤ (rd y205 x38_1) then (if (rd y205 x38_1) ≤ t215 then (if t215 ≤ (js10.size : Int) then (if (js10.extract ((rd y205 x38_1) : Int).toNat (t215 : Int).toNat).toList = bt217.1.toList then (airchecklaw01_WireUnique.l0 kj24 t200 js10 y205 (y205.length : Int) (wrap64 (x38_1 + 1))) else (some false)) else (none)) else (none)) else (none)))) else (some false)) else (if t216 = 10 then (if t214.toList = ([] : List UInt8) then (if t215 = 0 then (airchecklaw01_WireUnique.l0 kj24 t200 js10 y205 (y205.length : Int) (wrap64 (x38_1 + 1))) else (some false)) else (some false)) else (some false)))) = some r := H
                        have A39 := Aside0.mk A390
                        clear A390
                        replace H := Option.bind_eq_some_iff.mp H
                        obtain ⟨⟨t217, t218⟩, A400, H⟩ := H
                        replace H : (if t216 = 0 then (if t218 = 0 then (if t215 < (rd y205 x38_1) then (some false) else (if t215 > (js10.size : Int) then (some false) else (if 0 ≤ (rd y205 x38_1) then (if (rd y205 x38_1) ≤ t215 then (if t215 ≤ (js10.size : Int) then (if (js10.extract ((rd y205 x38_1) : Int).toNat (t215 : Int).toNat).toList = t217.toList then (airchecklaw01_WireUnique.l0 kj24 t200 js10 y205 (y205.length : Int) (wrap64 (x38_1 + 1))) else (some false)) else (none)) else (none)) else (none)))) else (some false)) else (if t216 = 10 then (if t214.toList = ([] : List UInt8) then (if t215 = 0 then (airchecklaw01_WireUnique.l0 kj24 t200 js10 y205 (y205.length : Int) (wrap64 (x38_1 + 1))) else (some false)) else (some false)) else (some false))) = some r := H
                        have A40 := Aside0.mk A400
                        clear A400
                        by_cases c41 : t216 = 0
                        · rw [if_pos c41] at H
                          have c41b0 : (t216 == 0) = true := beq_iff_eq.mpr c41
                          have c41b1 : (t216 != 0) = false := bne_eq_false_iff_eq.mpr c41
                          clear c41
                          by_cases c42 : t218 = 0
                          · rw [if_pos c42] at H
                            have c42b0 : (t218 == 0) = true := beq_iff_eq.mpr c42
                            have c42b1 : (t218 != 0) = false := bne_eq_false_iff_eq.mpr c42
                            clear c42
                            by_cases c43 : t215 < (rd y205 x38_1)
                            · rw [if_pos c43] at H
                              have c43b0 : decide (t215 < (rd y205 x38_1)) = true := decide_eq_true c43
                              clear c43
                              obtain rfl := Option.some.inj H
                              go_wp2_with (first | ((with_reducible refine gate_callee (f := 17) rfl ?_); refine goesL_ (some 98) rfl rfl Tryd.func17 (by kernel_rfl) rfl #[.string js10, .int .i64 (rd y205 x38_1)] rfl (by (try simp only [List.map_toArray, List.map_cons, List.map_nil]); first | done | rfl | (simp only [List.length_drop, List.length_take]; rfl)) ?_; (with_reducible refine (wire_String.calls kj24 js10 (rd y205 x38_1) t214 t215 t216 _ A39.out).mono ?_); rintro e w' ⟨rfl, ⟨nd, rfl⟩⟩; refine ⟨_, rfl, ?_⟩) | ((with_reducible refine gate_callee (f := 19) rfl ?_); refine goesL_ (some 104) rfl rfl Tryd.func19 (by kernel_rfl) rfl #[.string t214] rfl (by (try simp only [List.map_toArray, List.map_cons, List.map_nil]); first | done | rfl | (simp only [List.length_drop, List.length_take]; rfl)) ?_; (with_reducible refine (wire_PutString.calls t214 t217 t218 _ A40.out).mono ?_); rintro e w44 ⟨rfl, hb⟩; refine ⟨_, rfl, ?_⟩; have n0_ := Aside0.mk (Kd.R_below (by (with_reducible repeat (first | apply Kd.R_alloc | apply Kd.R_drewN | apply Kd.R_drew)); exact HO_36.out) hb); have n1_ := Aside0.mk (below_step (by repeat (first | (with_reducible first | exact HB.out | apply below_alloc | apply pw_below_drewN | apply below_drew1) | exact HB.out)) hb); clear HO_36; clear HB; have HO_36 := n0_; have HB := n1_; clear n0_ n1_; (try clear hb); (try clear hb2); (try clear hk); (try clear hi)))
                              go_ret
                              exact ⟨by first | rfl | (simp [errW_none, errW_some] <;> rfl) | (simp only [← hji5, ← hjs8, ← hjs10]; first | rfl | (simp [errW_none, errW_some] <;> rfl)) | (simp [*, errW_none, errW_some] <;> rfl), by repeat (first | (with_reducible first | exact HB.out | apply below_alloc | apply pw_below_drewN | apply below_drew1) | exact HB.out)⟩
                            · rw [if_neg c43] at H
                              have c43b0 : decide (t215 < (rd y205 x38_1)) = false := decide_eq_false c43
                              clear c43
                              by_cases c45 : t215 > (js10.size : Int)
                              · rw [if_pos c45] at H
                                have c45b0 : decide ((js10.size : Int) < t215) = true := decide_eq_true c45
                                clear c45
                                obtain rfl := Option.some.inj H
                                go_wp2_with (first | ((with_reducible refine gate_callee (f := 17) rfl ?_); refine goesL_ (some 98) rfl rfl Tryd.func17 (by kernel_rfl) rfl #[.string js10, .int .i64 (rd y205 x38_1)] rfl (by (try simp only [List.map_toArray, List.map_cons, List.map_nil]); first | done | rfl | (simp only [List.length_drop, List.length_take]; rfl)) ?_; (with_reducible refine (wire_String.calls kj24 js10 (rd y205 x38_1) t214 t215 t216 _ A39.out).mono ?_); rintro e w' ⟨rfl, ⟨nd, rfl⟩⟩; refine ⟨_, rfl, ?_⟩) | ((with_reducible refine gate_callee (f := 19) rfl ?_); refine goesL_ (some 104) rfl rfl Tryd.func19 (by kernel_rfl) rfl #[.string t214] rfl (by (try simp only [List.map_toArray, List.map_cons, List.map_nil]); first | done | rfl | (simp only [List.length_drop, List.length_take]; rfl)) ?_; (with_reducible refine (wire_PutString.calls t214 t217 t218 _ A40.out).mono ?_); rintro e w46 ⟨rfl, hb⟩; refine ⟨_, rfl, ?_⟩; have n0_ := Aside0.mk (Kd.R_below (by (with_reducible repeat (first | apply Kd.R_alloc | apply Kd.R_drewN | apply Kd.R_drew)); exact HO_36.out) hb); have n1_ := Aside0.mk (below_step (by repeat (first | (with_reducible first | exact HB.out | apply below_alloc | apply pw_below_drewN | apply below_drew1) | exact HB.out)) hb); clear HO_36; clear HB; have HO_36 := n0_; have HB := n1_; clear n0_ n1_; (try clear hb); (try clear hb2); (try clear hk); (try clear hi)))
                                go_ret
                                exact ⟨by first | rfl | (simp [errW_none, errW_some] <;> rfl) | (simp only [← hji5, ← hjs8, ← hjs10]; first | rfl | (simp [errW_none, errW_some] <;> rfl)) | (simp [*, errW_none, errW_some] <;> rfl), by repeat (first | (with_reducible first | exact HB.out | apply below_alloc | apply pw_below_drewN | apply below_drew1) | exact HB.out)⟩
                              · rw [if_neg c45] at H
                                have c45b0 : decide ((js10.size : Int) < t215) = false := decide_eq_false c45
                                clear c45
                                by_cases c47 : 0 ≤ (rd y205 x38_1)
                                · rw [if_pos c47] at H
                                  have c47b0 := eq_true c47
                                  have c47b1 : decide (0 ≤ (rd y205 x38_1)) = true := decide_eq_true c47
                                  clear c47
                                  by_cases c48 : (rd y205 x38_1) ≤ t215
                                  · rw [if_pos c48] at H
                                    have c48b0 := eq_true c48
                                    have c48b1 : decide ((rd y205 x38_1) ≤ t215) = true := decide_eq_true c48
                                    clear c48
                                    by_cases c49 : t215 ≤ (js10.size : Int)
                                    · rw [if_pos c49] at H
                                      have c49b0 := eq_true c49
                                      have c49b1 : decide (t215 ≤ (js10.size : Int)) = true := decide_eq_true c49
                                      clear c49
                                      obtain ⟨js50, hjs50⟩ : ∃ s_ : ByteArray, (js10.extract ((rd y205 x38_1) : Int).toNat (t215 : Int).toNat) = s_ := ⟨_, rfl⟩
                                      replace H : (if js50.toList = t217.toList then (airchecklaw01_WireUnique.l0 kj24 t200 js10 y205 (y205.length : Int) (wrap64 (x38_1 + 1))) else (some false)) = some r := by first | (rw [hjs50] at H; exact H) | (simp only [hjs50] at H ⊢; exact H) | exact H
                                      by_cases c51 : js50.toList = t217.toList
                                      · rw [if_pos c51] at H
                                        have c51b0 : (js50.toList == t217.toList) = true := beq_iff_eq.mpr c51
                                        have c51b1 : (js50.toList != t217.toList) = false := bne_eq_false_iff_eq.mpr c51
                                        clear c51
                                        have H' := Aside0.mk H
                                        clear H
                                        go_wp2_with (first | ((with_reducible refine gate_callee (f := 17) rfl ?_); refine goesL_ (some 98) rfl rfl Tryd.func17 (by kernel_rfl) rfl #[.string js10, .int .i64 (rd y205 x38_1)] rfl (by (try simp only [List.map_toArray, List.map_cons, List.map_nil]); first | done | rfl | (simp only [List.length_drop, List.length_take]; rfl)) ?_; (with_reducible refine (wire_String.calls kj24 js10 (rd y205 x38_1) t214 t215 t216 _ A39.out).mono ?_); rintro e w' ⟨rfl, ⟨nd, rfl⟩⟩; refine ⟨_, rfl, ?_⟩) | ((with_reducible refine gate_callee (f := 19) rfl ?_); refine goesL_ (some 104) rfl rfl Tryd.func19 (by kernel_rfl) rfl #[.string t214] rfl (by (try simp only [List.map_toArray, List.map_cons, List.map_nil]); first | done | rfl | (simp only [List.length_drop, List.length_take]; rfl)) ?_; (with_reducible refine (wire_PutString.calls t214 t217 t218 _ A40.out).mono ?_); rintro e w52 ⟨rfl, hb⟩; refine ⟨_, rfl, ?_⟩; have n0_ := Aside0.mk (Kd.R_below (by (with_reducible repeat (first | apply Kd.R_alloc | apply Kd.R_drewN | apply Kd.R_drew)); exact HO_36.out) hb); have n1_ := Aside0.mk (below_step (by repeat (first | (with_reducible first | exact HB.out | apply below_alloc | apply pw_below_drewN | apply below_drew1) | exact HB.out)) hb); clear HO_36; clear HB; have HO_36 := n0_; have HB := n1_; clear n0_ n1_; (try clear hb); (try clear hb2); (try clear hk); (try clear hi)))
                                        go_roundg kj24
                                        case measure => have := HK1.out; have := HJ24.out; omega
                                        case rel => exact ⟨(wrap64 (x38_1 + 1)), (by first | rfl | (simp; done) | (simp [*]; done)), H', ⟨by have := HK1.out; have := HJ24.out; omega⟩, ⟨by (with_reducible repeat (first | apply Kd.R_alloc | apply Kd.R_drewN | apply Kd.R_drew)); exact HO_36.out⟩, ⟨by repeat (first | (with_reducible first | exact HB.out | apply below_alloc | apply pw_below_drewN | apply below_drew1) | exact HB.out)⟩⟩
                                      · rw [if_neg c51] at H
                                        have c51b0 : (js50.toList == t217.toList) = false := beq_eq_false_iff_ne.mpr c51
                                        have c51b1 : (js50.toList != t217.toList) = true := bne_iff_ne.mpr c51
                                        obtain rfl := Option.some.inj H
                                        go_wp2_with (first | ((with_reducible refine gate_callee (f := 17) rfl ?_); refine goesL_ (some 98) rfl rfl Tryd.func17 (by kernel_rfl) rfl #[.string js10, .int .i64 (rd y205 x38_1)] rfl (by (try simp only [List.map_toArray, List.map_cons, List.map_nil]); first | done | rfl | (simp only [List.length_drop, List.length_take]; rfl)) ?_; (with_reducible refine (wire_String.calls kj24 js10 (rd y205 x38_1) t214 t215 t216 _ A39.out).mono ?_); rintro e w' ⟨rfl, ⟨nd, rfl⟩⟩; refine ⟨_, rfl, ?_⟩) | ((with_reducible refine gate_callee (f := 19) rfl ?_); refine goesL_ (some 104) rfl rfl Tryd.func19 (by kernel_rfl) rfl #[.string t214] rfl (by (try simp only [List.map_toArray, List.map_cons, List.map_nil]); first | done | rfl | (simp only [List.length_drop, List.length_take]; rfl)) ?_; (with_reducible refine (wire_PutString.calls t214 t217 t218 _ A40.out).mono ?_); rintro e w53 ⟨rfl, hb⟩; refine ⟨_, rfl, ?_⟩; have n0_ := Aside0.mk (Kd.R_below (by (with_reducible repeat (first | apply Kd.R_alloc | apply Kd.R_drewN | apply Kd.R_drew)); exact HO_36.out) hb); have n1_ := Aside0.mk (below_step (by repeat (first | (with_reducible first | exact HB.out | apply below_alloc | apply pw_below_drewN | apply below_drew1) | exact HB.out)) hb); clear HO_36; clear HB; have HO_36 := n0_; have HB := n1_; clear n0_ n1_; (try clear hb); (try clear hb2); (try clear hk); (try clear hi)))
                                        go_ret
                                        exact ⟨by first | rfl | (simp [errW_none, errW_some] <;> rfl) | (simp only [← hji5, ← hjs8, ← hjs10, ← hjs50]; first | rfl | (simp [errW_none, errW_some] <;> rfl)) | (simp [*, errW_none, errW_some] <;> rfl), by repeat (first | (with_reducible first | exact HB.out | apply below_alloc | apply pw_below_drewN | apply below_drew1) | exact HB.out)⟩
                                    · rw [if_neg c49] at H
                                      exact absurd H (by simp)
                                  · rw [if_neg c48] at H
                                    exact absurd H (by simp)
                                · rw [if_neg c47] at H
                                  exact absurd H (by simp)
                          · rw [if_neg c42] at H
                            have c42b0 : (t218 == 0) = false := beq_eq_false_iff_ne.mpr c42
                            have c42b1 : (t218 != 0) = true := bne_iff_ne.mpr c42
                            obtain rfl := Option.some.inj H
                            go_wp2_with (first | ((with_reducible refine gate_callee (f := 17) rfl ?_); refine goesL_ (some 98) rfl rfl Tryd.func17 (by kernel_rfl) rfl #[.string js10, .int .i64 (rd y205 x38_1)] rfl (by (try simp only [List.map_toArray, List.map_cons, List.map_nil]); first | done | rfl | (simp only [List.length_drop, List.length_take]; rfl)) ?_; (with_reducible refine (wire_String.calls kj24 js10 (rd y205 x38_1) t214 t215 t216 _ A39.out).mono ?_); rintro e w' ⟨rfl, ⟨nd, rfl⟩⟩; refine ⟨_, rfl, ?_⟩) | ((with_reducible refine gate_callee (f := 19) rfl ?_); refine goesL_ (some 104) rfl rfl Tryd.func19 (by kernel_rfl) rfl #[.string t214] rfl (by (try simp only [List.map_toArray, List.map_cons, List.map_nil]); first | done | rfl | (simp only [List.length_drop, List.length_take]; rfl)) ?_; (with_reducible refine (wire_PutString.calls t214 t217 t218 _ A40.out).mono ?_); rintro e w54 ⟨rfl, hb⟩; refine ⟨_, rfl, ?_⟩; have n0_ := Aside0.mk (Kd.R_below (by (with_reducible repeat (first | apply Kd.R_alloc | apply Kd.R_drewN | apply Kd.R_drew)); exact HO_36.out) hb); have n1_ := Aside0.mk (below_step (by repeat (first | (with_reducible first | exact HB.out | apply below_alloc | apply pw_below_drewN | apply below_drew1) | exact HB.out)) hb); clear HO_36; clear HB; have HO_36 := n0_; have HB := n1_; clear n0_ n1_; (try clear hb); (try clear hb2); (try clear hk); (try clear hi)))
                            go_ret
                            exact ⟨by first | rfl | (simp [errW_none, errW_some] <;> rfl) | (simp only [← hji5, ← hjs8, ← hjs10]; first | rfl | (simp [errW_none, errW_some] <;> rfl)) | (simp [*, errW_none, errW_some] <;> rfl), by repeat (first | (with_reducible first | exact HB.out | apply below_alloc | apply pw_below_drewN | apply below_drew1) | exact HB.out)⟩
                        · rw [if_neg c41] at H
                          have c41b0 : (t216 == 0) = false := beq_eq_false_iff_ne.mpr c41
                          have c41b1 : (t216 != 0) = true := bne_iff_ne.mpr c41
                          by_cases c55 : t216 = 10
                          · rw [if_pos c55] at H
                            have c55b0 : (t216 == 10) = true := beq_iff_eq.mpr c55
                            have c55b1 : (t216 != 10) = false := bne_eq_false_iff_eq.mpr c55
                            clear c55
                            by_cases c56 : t214.toList = ([] : List UInt8)
                            · rw [if_pos c56] at H
                              have c56b0 : (t214.toList == ([] : List UInt8)) = true := beq_iff_eq.mpr c56
                              have c56b1 : (t214.toList != ([] : List UInt8)) = false := bne_eq_false_iff_eq.mpr c56
                              clear c56
                              by_cases c57 : t215 = 0
                              · rw [if_pos c57] at H
                                have c57b0 : (t215 == 0) = true := beq_iff_eq.mpr c57
                                have c57b1 : (t215 != 0) = false := bne_eq_false_iff_eq.mpr c57
                                clear c57
                                have H' := Aside0.mk H
                                clear H
                                go_wp2_with (first | ((with_reducible refine gate_callee (f := 17) rfl ?_); refine goesL_ (some 98) rfl rfl Tryd.func17 (by kernel_rfl) rfl #[.string js10, .int .i64 (rd y205 x38_1)] rfl (by (try simp only [List.map_toArray, List.map_cons, List.map_nil]); first | done | rfl | (simp only [List.length_drop, List.length_take]; rfl)) ?_; (with_reducible refine (wire_String.calls kj24 js10 (rd y205 x38_1) t214 t215 t216 _ A39.out).mono ?_); rintro e w' ⟨rfl, ⟨nd, rfl⟩⟩; refine ⟨_, rfl, ?_⟩) | ((with_reducible refine gate_callee (f := 19) rfl ?_); refine goesL_ (some 104) rfl rfl Tryd.func19 (by kernel_rfl) rfl #[.string t214] rfl (by (try simp only [List.map_toArray, List.map_cons, List.map_nil]); first | done | rfl | (simp only [List.length_drop, List.length_take]; rfl)) ?_; (with_reducible refine (wire_PutString.calls t214 t217 t218 _ A40.out).mono ?_); rintro e w58 ⟨rfl, hb⟩; refine ⟨_, rfl, ?_⟩; have n0_ := Aside0.mk (Kd.R_below (by (with_reducible repeat (first | apply Kd.R_alloc | apply Kd.R_drewN | apply Kd.R_drew)); exact HO_36.out) hb); have n1_ := Aside0.mk (below_step (by repeat (first | (with_reducible first | exact HB.out | apply below_alloc | apply pw_below_drewN | apply below_drew1) | exact HB.out)) hb); clear HO_36; clear HB; have HO_36 := n0_; have HB := n1_; clear n0_ n1_; (try clear hb); (try clear hb2); (try clear hk); (try clear hi)))
                                go_roundg kj24
                                case measure => have := HK1.out; have := HJ24.out; omega
                                case rel => exact ⟨(wrap64 (x38_1 + 1)), (by first | rfl | (simp; done) | (simp [*]; done)), H', ⟨by have := HK1.out; have := HJ24.out; omega⟩, ⟨by (with_reducible repeat (first | apply Kd.R_alloc | apply Kd.R_drewN | apply Kd.R_drew)); exact HO_36.out⟩, ⟨by repeat (first | (with_reducible first | exact HB.out | apply below_alloc | apply pw_below_drewN | apply below_drew1) | exact HB.out)⟩⟩
                              · rw [if_neg c57] at H
                                have c57b0 : (t215 == 0) = false := beq_eq_false_iff_ne.mpr c57
                                have c57b1 : (t215 != 0) = true := bne_iff_ne.mpr c57
                                obtain rfl := Option.some.inj H
                                go_wp2_with (first | ((with_reducible refine gate_callee (f := 17) rfl ?_); refine goesL_ (some 98) rfl rfl Tryd.func17 (by kernel_rfl) rfl #[.string js10, .int .i64 (rd y205 x38_1)] rfl (by (try simp only [List.map_toArray, List.map_cons, List.map_nil]); first | done | rfl | (simp only [List.length_drop, List.length_take]; rfl)) ?_; (with_reducible refine (wire_String.calls kj24 js10 (rd y205 x38_1) t214 t215 t216 _ A39.out).mono ?_); rintro e w' ⟨rfl, ⟨nd, rfl⟩⟩; refine ⟨_, rfl, ?_⟩) | ((with_reducible refine gate_callee (f := 19) rfl ?_); refine goesL_ (some 104) rfl rfl Tryd.func19 (by kernel_rfl) rfl #[.string t214] rfl (by (try simp only [List.map_toArray, List.map_cons, List.map_nil]); first | done | rfl | (simp only [List.length_drop, List.length_take]; rfl)) ?_; (with_reducible refine (wire_PutString.calls t214 t217 t218 _ A40.out).mono ?_); rintro e w59 ⟨rfl, hb⟩; refine ⟨_, rfl, ?_⟩; have n0_ := Aside0.mk (Kd.R_below (by (with_reducible repeat (first | apply Kd.R_alloc | apply Kd.R_drewN | apply Kd.R_drew)); exact HO_36.out) hb); have n1_ := Aside0.mk (below_step (by repeat (first | (with_reducible first | exact HB.out | apply below_alloc | apply pw_below_drewN | apply below_drew1) | exact HB.out)) hb); clear HO_36; clear HB; have HO_36 := n0_; have HB := n1_; clear n0_ n1_; (try clear hb); (try clear hb2); (try clear hk); (try clear hi)))
                                go_ret
                                exact ⟨by first | rfl | (simp [errW_none, errW_some] <;> rfl) | (simp only [← hji5, ← hjs8, ← hjs10]; first | rfl | (simp [errW_none, errW_some] <;> rfl)) | (simp [*, errW_none, errW_some] <;> rfl), by repeat (first | (with_reducible first | exact HB.out | apply below_alloc | apply pw_below_drewN | apply below_drew1) | exact HB.out)⟩
                            · rw [if_neg c56] at H
                              have c56b0 : (t214.toList == ([] : List UInt8)) = false := beq_eq_false_iff_ne.mpr c56
                              have c56b1 : (t214.toList != ([] : List UInt8)) = true := bne_iff_ne.mpr c56
                              obtain rfl := Option.some.inj H
                              go_wp2_with (first | ((with_reducible refine gate_callee (f := 17) rfl ?_); refine goesL_ (some 98) rfl rfl Tryd.func17 (by kernel_rfl) rfl #[.string js10, .int .i64 (rd y205 x38_1)] rfl (by (try simp only [List.map_toArray, List.map_cons, List.map_nil]); first | done | rfl | (simp only [List.length_drop, List.length_take]; rfl)) ?_; (with_reducible refine (wire_String.calls kj24 js10 (rd y205 x38_1) t214 t215 t216 _ A39.out).mono ?_); rintro e w' ⟨rfl, ⟨nd, rfl⟩⟩; refine ⟨_, rfl, ?_⟩) | ((with_reducible refine gate_callee (f := 19) rfl ?_); refine goesL_ (some 104) rfl rfl Tryd.func19 (by kernel_rfl) rfl #[.string t214] rfl (by (try simp only [List.map_toArray, List.map_cons, List.map_nil]); first | done | rfl | (simp only [List.length_drop, List.length_take]; rfl)) ?_; (with_reducible refine (wire_PutString.calls t214 t217 t218 _ A40.out).mono ?_); rintro e w60 ⟨rfl, hb⟩; refine ⟨_, rfl, ?_⟩; have n0_ := Aside0.mk (Kd.R_below (by (with_reducible repeat (first | apply Kd.R_alloc | apply Kd.R_drewN | apply Kd.R_drew)); exact HO_36.out) hb); have n1_ := Aside0.mk (below_step (by repeat (first | (with_reducible first | exact HB.out | apply below_alloc | apply pw_below_drewN | apply below_drew1) | exact HB.out)) hb); clear HO_36; clear HB; have HO_36 := n0_; have HB := n1_; clear n0_ n1_; (try clear hb); (try clear hb2); (try clear hk); (try clear hi)))
                              go_ret
                              exact ⟨by first | rfl | (simp [errW_none, errW_some] <;> rfl) | (simp only [← hji5, ← hjs8, ← hjs10]; first | rfl | (simp [errW_none, errW_some] <;> rfl)) | (simp [*, errW_none, errW_some] <;> rfl), by repeat (first | (with_reducible first | exact HB.out | apply below_alloc | apply pw_below_drewN | apply below_drew1) | exact HB.out)⟩
                          · rw [if_neg c55] at H
                            have c55b0 : (t216 == 10) = false := beq_eq_false_iff_ne.mpr c55
                            have c55b1 : (t216 != 10) = true := bne_iff_ne.mpr c55
                            obtain rfl := Option.some.inj H
                            go_wp2_with (first | ((with_reducible refine gate_callee (f := 17) rfl ?_); refine goesL_ (some 98) rfl rfl Tryd.func17 (by kernel_rfl) rfl #[.string js10, .int .i64 (rd y205 x38_1)] rfl (by (try simp only [List.map_toArray, List.map_cons, List.map_nil]); first | done | rfl | (simp only [List.length_drop, List.length_take]; rfl)) ?_; (with_reducible refine (wire_String.calls kj24 js10 (rd y205 x38_1) t214 t215 t216 _ A39.out).mono ?_); rintro e w' ⟨rfl, ⟨nd, rfl⟩⟩; refine ⟨_, rfl, ?_⟩) | ((with_reducible refine gate_callee (f := 19) rfl ?_); refine goesL_ (some 104) rfl rfl Tryd.func19 (by kernel_rfl) rfl #[.string t214] rfl (by (try simp only [List.map_toArray, List.map_cons, List.map_nil]); first | done | rfl | (simp only [List.length_drop, List.length_take]; rfl)) ?_; (with_reducible refine (wire_PutString.calls t214 t217 t218 _ A40.out).mono ?_); rintro e w61 ⟨rfl, hb⟩; refine ⟨_, rfl, ?_⟩; have n0_ := Aside0.mk (Kd.R_below (by (with_reducible repeat (first | apply Kd.R_alloc | apply Kd.R_drewN | apply Kd.R_drew)); exact HO_36.out) hb); have n1_ := Aside0.mk (below_step (by repeat (first | (with_reducible first | exact HB.out | apply below_alloc | apply pw_below_drewN | apply below_drew1) | exact HB.out)) hb); clear HO_36; clear HB; have HO_36 := n0_; have HB := n1_; clear n0_ n1_; (try clear hb); (try clear hb2); (try clear hk); (try clear hi)))
                            go_ret
                            exact ⟨by first | rfl | (simp [errW_none, errW_some] <;> rfl) | (simp only [← hji5, ← hjs8, ← hjs10]; first | rfl | (simp [errW_none, errW_some] <;> rfl)) | (simp [*, errW_none, errW_some] <;> rfl), by repeat (first | (with_reducible first | exact HB.out | apply below_alloc | apply pw_below_drewN | apply below_drew1) | exact HB.out)⟩
                · rw [if_neg c22] at H
                  exact absurd H (by simp)
              · rw [if_neg c21] at H
                exact absurd H (by simp)
            · rw [if_neg c20] at H
              have c20b0 : decide (x38_1 < (y205.length : Int)) = false := decide_eq_false c20
              clear c20
              obtain rfl := Option.some.inj H
              go_wp2
              go_ret
              exact ⟨by first | rfl | (simp [errW_none, errW_some] <;> rfl) | (simp only [← hji5, ← hjs8, ← hjs10]; first | rfl | (simp [errW_none, errW_some] <;> rfl)) | (simp [*, errW_none, errW_some] <;> rfl), by repeat (first | (with_reducible first | exact HB.out | apply below_alloc | apply pw_below_drewN | apply below_drew1) | exact HB.out)⟩
      · rw [if_neg c9] at H
        exact absurd H (by simp)
    · rw [if_neg c7] at H
      exact absurd H (by simp)
  · rw [if_neg c6] at H
    exact absurd H (by simp)

end Go.Proofs.YtijnbalobinfiaaDoor.PW
