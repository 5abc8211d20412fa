-- Written by a program of this session out of the translation's print; not trusted: checked by the kernel.
import Derived.Test.YtijnbalobinfiaaDoorPWx0
import Derived.Test.YtijnbalobinfiaaDoorPWx2
import Derived.Test.YtijnbalobinfiaaDoorPWx3
import Derived.Test.YtijnbalobinfiaaDoorPWx4
import Derived.Test.YtijnbalobinfiaaDoorPWx6
import Derived.Test.YtijnbalobinfiaaDoorPWx7
import Derived.Test.YtijnbalobinfiaaDoorPWx8
namespace Go.Proofs.YtijnbalobinfiaaDoor.PW
open Go.Proofs.YtijnbalobinfiaaDoor.Ext
attribute [local go_sem] u32_signed u32_max
open Go.RowKit Go.Proofs.YtijnbalobinfiaaDoorW.PrintWords Go.Proofs.YtijnbalobinfiaaDoorW.PrintLast Go.Proofs.YtijnbalobinfiaaDoorW.PrintMore
attribute [local go_sem] max2_int min2_int max_two min_two max_three min_three max_four min_four   -- for this text's walks alone
set_option linter.unusedVariables false
set_option linter.unusedSimpArgs false

/-! ### airchecklaw01_WireTruncated: function 7 -/
def airchecklaw01_WireTruncated.j0 : Nat → Int → Int → Int → Bool → ByteArray → ByteArray → ByteArray → Bool → Option (Bool)
  | 0, _, _, _, _, _, _, _, _ => none
  | k + 1, x0, x1, x3, x9, x10, x12, x14, x64 => if x64 = true then (some false) else ((airchecklaw01_pick.f x3 (x10.size : Int)).bind fun t250 => (if 0 ≤ t250 then (if t250 ≤ (x10.size : Int) then ((wire_Int.f k (x10.extract 0 (t250 : Int).toNat) 0).bind fun bt251 => ((airchecklaw01_pick.f x3 (x14.size : Int)).bind fun t254 => (if 0 ≤ t254 then (if t254 ≤ (x14.size : Int) then ((wire_String.f k (x14.extract 0 (t254 : Int).toNat) 0).bind fun bt255 => (if (x10.size : Int) ≤ (x12.size : Int) then (if 0 ≤ (x10.size : Int) then (if x9 = true then (if bt251.2.2 = 10 then (if bt255.2.2 = 10 then ((airchecklaw01_NumberFrom.f x0).bind fun t258 => ((airchecklaw01_NumberFrom.f x1).bind fun t259 => (some (((x12.extract 0 ((x10.size : Int) : Int).toNat).toList == x10.toList) == (t258 == t259))))) else (some false)) else (some false)) else (some false)) else (none)) else (if x9 = true then (if bt251.2.2 = 10 then (if bt255.2.2 = 10 then ((airchecklaw01_NumberFrom.f x0).bind fun t260 => ((airchecklaw01_NumberFrom.f x1).bind fun t261 => (some (false == (t260 == t261))))) else (some false)) else (some false)) else (some false)))) else (none)) else (none)))) else (none)) else (none)))
def airchecklaw01_WireTruncated.f (k : Nat) (a0 : Int) (a1 : Int) (a2 : ByteArray) (a3 : Int) : Option (Bool) := (airchecklaw01_sane.f k).bind fun t241 => ((airchecklaw01_NumberFrom.f a0).bind fun t242 => ((wire_PutInt.f t242).bind fun bt243 => ((airchecklaw01_NumberFrom.f a1).bind fun t245 => ((wire_PutInt.f t245).bind fun bt246 => (if 0 ≤ (mn (a2.size : Int) 200) then (if (mn (a2.size : Int) 200) ≤ (a2.size : Int) then ((wire_PutString.f (a2.extract 0 ((mn (a2.size : Int) 200) : Int).toNat)).bind fun bt248 => (if bt243.2 = 0 then (if bt246.2 = 0 then (if bt248.2 = 0 then (if (bt243.1.size : Int) = 0 then (airchecklaw01_WireTruncated.j0 k a0 a1 a3 t241 bt243.1 bt246.1 bt248.1 true) else (airchecklaw01_WireTruncated.j0 k a0 a1 a3 t241 bt243.1 bt246.1 bt248.1 ((bt248.1.size : Int) == 0))) else (airchecklaw01_WireTruncated.j0 k a0 a1 a3 t241 bt243.1 bt246.1 bt248.1 true)) else (airchecklaw01_WireTruncated.j0 k a0 a1 a3 t241 bt243.1 bt246.1 bt248.1 true)) else (airchecklaw01_WireTruncated.j0 k a0 a1 a3 t241 bt243.1 bt246.1 bt248.1 true))) else (none)) else (none))))))
theorem airchecklaw01_WireTruncated.mono_l : ∀ k, (∀ y0 y1 y2 y3 y4 y5 y6 y7, LeO (airchecklaw01_WireTruncated.j0 k y0 y1 y2 y3 y4 y5 y6 y7) (airchecklaw01_WireTruncated.j0 (k + 1) y0 y1 y2 y3 y4 y5 y6 y7))
  | 0 => fun _ _ _ _ _ _ _ _ r h => by simp [airchecklaw01_WireTruncated.j0] at h
  | k + 1 => by
    have ih0 := airchecklaw01_WireTruncated.mono_l k
    · intro y0 y1 y2 y3 y4 y5 y6 y7
      unfold airchecklaw01_WireTruncated.j0
      repeat' first
      | (with_reducible exact ih0 _ _ _ _ _ _ _ _)
      | (with_reducible exact airchecklaw01_sane.mono _)
      | (with_reducible exact wire_Int.mono _ _ _)
      | (with_reducible exact wire_String.mono _ _ _)
      | (with_reducible exact LeO.refl _)
      | (with_reducible exact LeO.none _)
      | (with_reducible refine LeO.ite ?_ ?_)
      | (with_reducible refine LeO.bind ?_ (fun _ => ?_))
      | exact ih0 _ _ _ _ _ _ _ _
      | exact airchecklaw01_sane.mono _
      | exact wire_Int.mono _ _ _
      | exact wire_String.mono _ _ _
      | exact LeO.none _
      | refine LeO.ite ?_ ?_
      | refine LeO.bind ?_ (fun _ => ?_)
theorem airchecklaw01_WireTruncated.mono : ∀ a0 a1 a2 a3 k, LeO (airchecklaw01_WireTruncated.f k a0 a1 a2 a3) (airchecklaw01_WireTruncated.f (k + 1) a0 a1 a2 a3) := by
  intro a0 a1 a2 a3 k
  have ih0 := airchecklaw01_WireTruncated.mono_l k
  unfold airchecklaw01_WireTruncated.f
  repeat' first
      | (with_reducible exact ih0 _ _ _ _ _ _ _ _)
      | (with_reducible exact airchecklaw01_sane.mono _)
      | (with_reducible exact wire_Int.mono _ _ _)
      | (with_reducible exact wire_String.mono _ _ _)
      | (with_reducible exact LeO.refl _)
      | (with_reducible exact LeO.none _)
      | (with_reducible refine LeO.ite ?_ ?_)
      | (with_reducible refine LeO.bind ?_ (fun _ => ?_))
      | exact ih0 _ _ _ _ _ _ _ _
      | exact airchecklaw01_sane.mono _
      | exact wire_Int.mono _ _ _
      | exact wire_String.mono _ _ _
      | exact LeO.none _
      | refine LeO.ite ?_ ?_
      | refine LeO.bind ?_ (fun _ => ?_)
set_option maxHeartbeats 8000000 in
set_option maxRecDepth 100000 in
theorem airchecklaw01_WireTruncated.calls (k : Nat) (a0 : Int) (a1 : Int) (a2 : ByteArray) (a3 : Int) (r : Bool) (w : World) (hG : GL w) (h : airchecklaw01_WireTruncated.f k a0 a1 a2 a3 = some r) :
    Calls Tryd.prog 7 #[.int .i64 a0, .int .i64 a1, .string a2, .int .i64 a3] w fun e w' => e = .returned (.bool r) ∧ Below w.heap.size w w' := by
  have HB := Aside0.mk (Below.refl w.heap.size w)
  have H : ((airchecklaw01_sane.f k).bind fun t241 => ((airchecklaw01_NumberFrom.f a0).bind fun t242 => ((wire_PutInt.f t242).bind fun bt243 => ((airchecklaw01_NumberFrom.f a1).bind fun t245 => ((wire_PutInt.f t245).bind fun bt246 => (if 0 ≤ (mn (a2.size : Int) 200) then (if (mn (a2.size : Int) 200) ≤ (a2.size : Int) then ((wire_PutString.f (a2.extract 0 ((mn (a2.size : Int) 200) : Int).toNat)).bind fun bt248 => (if bt243.2 = 0 then (if bt246.2 = 0 then (if bt248.2 = 0 then (if (bt243.1.size : Int) = 0 then (airchecklaw01_WireTruncated.j0 k a0 a1 a3 t241 bt243.1 bt246.1 bt248.1 true) else (airchecklaw01_WireTruncated.j0 k a0 a1 a3 t241 bt243.1 bt246.1 bt248.1 ((bt248.1.size : Int) == 0))) else (airchecklaw01_WireTruncated.j0 k a0 a1 a3 t241 bt243.1 bt246.1 bt248.1 true)) else (airchecklaw01_WireTruncated.j0 k a0 a1 a3 t241 bt243.1 bt246.1 bt248.1 true)) else (airchecklaw01_WireTruncated.j0 k a0 a1 a3 t241 bt243.1 bt246.1 bt248.1 true))) else (none)) else (none))))))) = some r := h
  clear h
  replace H := Option.bind_eq_some_iff.mp H
  obtain ⟨t241, A50, H⟩ := H
  replace H : ((airchecklaw01_NumberFrom.f a0).bind fun t242 => ((wire_PutInt.f t242).bind fun bt243 => ((airchecklaw01_NumberFrom.f a1).bind fun t245 => ((wire_PutInt.f t245).bind fun bt246 => (if 0 ≤ (mn (a2.size : Int) 200) then (if (mn (a2.size : Int) 200) ≤ (a2.size : Int) then ((wire_PutString.f (a2.extract 0 ((mn (a2.size : Int) 200) : Int).toNat)).bind fun bt248 => (if bt243.2 = 0 then (if bt246.2 = 0 then (if bt248.2 = 0 then (if (bt243.1.size : Int) = 0 then (airchecklaw01_WireTruncated.j0 k a0 a1 a3 t241 bt243.1 bt246.1 bt248.1 true) else (airchecklaw01_WireTruncated.j0 k a0 a1 a3 t241 bt243.1 bt246.1 bt248.1 ((bt248.1.size : Int) == 0))) else (airchecklaw01_WireTruncated.j0 k a0 a1 a3 t241 bt243.1 bt246.1 bt248.1 true)) else (airchecklaw01_WireTruncated.j0 k a0 a1 a3 t241 bt243.1 bt246.1 bt248.1 true)) else (airchecklaw01_WireTruncated.j0 k a0 a1 a3 t241 bt243.1 bt246.1 bt248.1 true))) else (none)) else (none)))))) = some r := H
  have A5 := Aside0.mk A50
  clear A50
  replace H := Option.bind_eq_some_iff.mp H
  obtain ⟨t242, A60, H⟩ := H
  replace H : ((wire_PutInt.f t242).bind fun bt243 => ((airchecklaw01_NumberFrom.f a1).bind fun t245 => ((wire_PutInt.f t245).bind fun bt246 => (if 0 ≤ (mn (a2.size : Int) 200) then (if (mn (a2.size : Int) 200) ≤ (a2.size : Int) then ((wire_PutString.f (a2.extract 0 ((mn (a2.size : Int) 200) : Int).toNat)).bind fun bt248 => (if bt243.2 = 0 then (if bt246.2 = 0 then (if bt248.2 = 0 then (if (bt243.1.size : Int) = 0 then (airchecklaw01_WireTruncated.j0 k a0 a1 a3 t241 bt243.1 bt246.1 bt248.1 true) else (airchecklaw01_WireTruncated.j0 k a0 a1 a3 t241 bt243.1 bt246.1 bt248.1 ((bt248.1.size : Int) == 0))) else (airchecklaw01_WireTruncated.j0 k a0 a1 a3 t241 bt243.1 bt246.1 bt248.1 true)) else (airchecklaw01_WireTruncated.j0 k a0 a1 a3 t241 bt243.1 bt246.1 bt248.1 true)) else (airchecklaw01_WireTruncated.j0 k a0 a1 a3 t241 bt243.1 bt246.1 bt248.1 true))) else (none)) else (none))))) = some r := H
  have A6 := Aside0.mk A60
  clear A60
  replace H := Option.bind_eq_some_iff.mp H
  obtain ⟨⟨t243, t244⟩, A70, H⟩ := H
  replace H : ((airchecklaw01_NumberFrom.f a1).bind fun t245 => ((wire_PutInt.f t245).bind fun bt246 => (if 0 ≤ (mn (a2.size : Int) 200) then (if (mn (a2.size : Int) 200) ≤ (a2.size : Int) then ((wire_PutString.f (a2.extract 0 ((mn (a2.size : Int) 200) : Int).toNat)).bind fun bt248 => (if t244 = 0 then (if bt246.2 = 0 then (if bt248.2 = 0 then (if (t243.size : Int) = 0 then (airchecklaw01_WireTruncated.j0 k a0 a1 a3 t241 t243 bt246.1 bt248.1 true) else (airchecklaw01_WireTruncated.j0 k a0 a1 a3 t241 t243 bt246.1 bt248.1 ((bt248.1.size : Int) == 0))) else (airchecklaw01_WireTruncated.j0 k a0 a1 a3 t241 t243 bt246.1 bt248.1 true)) else (airchecklaw01_WireTruncated.j0 k a0 a1 a3 t241 t243 bt246.1 bt248.1 true)) else (airchecklaw01_WireTruncated.j0 k a0 a1 a3 t241 t243 bt246.1 bt248.1 true))) else (none)) else (none)))) = some r := H
  have A7 := Aside0.mk A70
  clear A70
  replace H := Option.bind_eq_some_iff.mp H
  obtain ⟨t245, A80, H⟩ := H
  replace H : ((wire_PutInt.f t245).bind fun bt246 => (if 0 ≤ (mn (a2.size : Int) 200) then (if (mn (a2.size : Int) 200) ≤ (a2.size : Int) then ((wire_PutString.f (a2.extract 0 ((mn (a2.size : Int) 200) : Int).toNat)).bind fun bt248 => (if t244 = 0 then (if bt246.2 = 0 then (if bt248.2 = 0 then (if (t243.size : Int) = 0 then (airchecklaw01_WireTruncated.j0 k a0 a1 a3 t241 t243 bt246.1 bt248.1 true) else (airchecklaw01_WireTruncated.j0 k a0 a1 a3 t241 t243 bt246.1 bt248.1 ((bt248.1.size : Int) == 0))) else (airchecklaw01_WireTruncated.j0 k a0 a1 a3 t241 t243 bt246.1 bt248.1 true)) else (airchecklaw01_WireTruncated.j0 k a0 a1 a3 t241 t243 bt246.1 bt248.1 true)) else (airchecklaw01_WireTruncated.j0 k a0 a1 a3 t241 t243 bt246.1 bt248.1 true))) else (none)) else (none))) = some r := H
  have A8 := Aside0.mk A80
  clear A80
  replace H := Option.bind_eq_some_iff.mp H
  obtain ⟨⟨t246, t247⟩, A90, H⟩ := H
  replace H : (if 0 ≤ (mn (a2.size : Int) 200) then (if (mn (a2.size : Int) 200) ≤ (a2.size : Int) then ((wire_PutString.f (a2.extract 0 ((mn (a2.size : Int) 200) : Int).toNat)).bind fun bt248 => (if t244 = 0 then (if t247 = 0 then (if bt248.2 = 0 then (if (t243.size : Int) = 0 then (airchecklaw01_WireTruncated.j0 k a0 a1 a3 t241 t243 t246 bt248.1 true) else (airchecklaw01_WireTruncated.j0 k a0 a1 a3 t241 t243 t246 bt248.1 ((bt248.1.size : Int) == 0))) else (airchecklaw01_WireTruncated.j0 k a0 a1 a3 t241 t243 t246 bt248.1 true)) else (airchecklaw01_WireTruncated.j0 k a0 a1 a3 t241 t243 t246 bt248.1 true)) else (airchecklaw01_WireTruncated.j0 k a0 a1 a3 t241 t243 t246 bt248.1 true))) else (none)) else (none)) = some r := H
  have A9 := Aside0.mk A90
  clear A90
  obtain ⟨ji10, hji10⟩ : ∃ j_ : Int, (mn (a2.size : Int) 200) = j_ := ⟨_, rfl⟩
  replace H : (if 0 ≤ (ji10) then (if (ji10) ≤ (a2.size : Int) then ((wire_PutString.f (a2.extract 0 ((ji10) : Int).toNat)).bind fun bt248 => (if t244 = 0 then (if t247 = 0 then (if bt248.2 = 0 then (if (t243.size : Int) = 0 then (airchecklaw01_WireTruncated.j0 k a0 a1 a3 t241 t243 t246 bt248.1 true) else (airchecklaw01_WireTruncated.j0 k a0 a1 a3 t241 t243 t246 bt248.1 ((bt248.1.size : Int) == 0))) else (airchecklaw01_WireTruncated.j0 k a0 a1 a3 t241 t243 t246 bt248.1 true)) else (airchecklaw01_WireTruncated.j0 k a0 a1 a3 t241 t243 t246 bt248.1 true)) else (airchecklaw01_WireTruncated.j0 k a0 a1 a3 t241 t243 t246 bt248.1 true))) else (none)) else (none)) = some r := by first | (rw [hji10] at H; exact H) | (simp only [hji10] at H ⊢; exact H)
  (try rw [hji10] at A5)
  (try rw [hji10] at A6)
  (try rw [hji10] at A7)
  (try rw [hji10] at A8)
  (try rw [hji10] at A9)
  (try (have hji10h : ji10 ≤ 200 := by (rw [← hji10]; unfold mn; (repeat' split) <;> omega)))
  (try (have hji10g : ji10 ≤ 64 := by omega))
  (try (have hji10l : 0 ≤ ji10 := by (rw [← hji10]; unfold mn; (repeat' split) <;> omega)))
  (try (have hji10m : 0 ≤ ji10 := by omega))
  have hji10_ : (if 200 < (a2.size : Int) then 200 else (a2.size : Int)) = ji10 := hji10
  by_cases c11 : 0 ≤ (ji10)
  · rw [if_pos c11] at H
    have c11b0 := eq_true c11
    have c11b1 : decide (0 ≤ (ji10)) = true := decide_eq_true c11
    clear c11
    by_cases c12 : (ji10) ≤ (a2.size : Int)
    · rw [if_pos c12] at H
      have c12b0 := eq_true c12
      have c12b1 : decide ((ji10) ≤ (a2.size : Int)) = true := decide_eq_true c12
      clear c12
      obtain ⟨js13, hjs13⟩ : ∃ s_ : ByteArray, (a2.extract 0 ((ji10) : Int).toNat) = s_ := ⟨_, rfl⟩
      replace H : ((wire_PutString.f js13).bind fun bt248 => (if t244 = 0 then (if t247 = 0 then (if bt248.2 = 0 then (if (t243.size : Int) = 0 then (airchecklaw01_WireTruncated.j0 k a0 a1 a3 t241 t243 t246 bt248.1 true) else (airchecklaw01_WireTruncated.j0 k a0 a1 a3 t241 t243 t246 bt248.1 ((bt248.1.size : Int) == 0))) else (airchecklaw01_WireTruncated.j0 k a0 a1 a3 t241 t243 t246 bt248.1 true)) else (airchecklaw01_WireTruncated.j0 k a0 a1 a3 t241 t243 t246 bt248.1 true)) else (airchecklaw01_WireTruncated.j0 k a0 a1 a3 t241 t243 t246 bt248.1 true))) = some r := by first | (rw [hjs13] at H; exact H) | (simp only [hjs13] at H ⊢; exact H) | exact H
      replace H := Option.bind_eq_some_iff.mp H
      obtain ⟨⟨t248, t249⟩, A140, H⟩ := H
      replace H : (if t244 = 0 then (if t247 = 0 then (if t249 = 0 then (if (t243.size : Int) = 0 then (airchecklaw01_WireTruncated.j0 k a0 a1 a3 t241 t243 t246 t248 true) else (airchecklaw01_WireTruncated.j0 k a0 a1 a3 t241 t243 t246 t248 ((t248.size : Int) == 0))) else (airchecklaw01_WireTruncated.j0 k a0 a1 a3 t241 t243 t246 t248 true)) else (airchecklaw01_WireTruncated.j0 k a0 a1 a3 t241 t243 t246 t248 true)) else (airchecklaw01_WireTruncated.j0 k a0 a1 a3 t241 t243 t246 t248 true)) = some r := H
      have A14 := Aside0.mk A140
      clear A140
      have HC15 := Aside0.mk H
      clear H
      go_enter Tryd.func7, Tryd.ntmps7
      go_upto_region 5 with (first | ((with_reducible refine gate_callee (f := 10) rfl ?_); refine goesL_ (some 23) rfl rfl Tryd.func10 (by kernel_rfl) rfl #[] rfl (by (try simp only [List.map_toArray, List.map_cons, List.map_nil]); first | done | rfl | (simp only [List.length_drop, List.length_take]; rfl)) ?_; (with_reducible refine (airchecklaw01_sane.calls k  t241 _ ?side1 A5.out).mono ?_); (case side1 => first | exact hG | exact GL.below hG (by repeat (first | (with_reducible first | exact HB.out | apply below_alloc | apply pw_below_drewN | apply below_drew1) | exact HB.out))); rintro e w16 ⟨rfl, hb⟩; refine ⟨_, rfl, ?_⟩; have n0_ := Aside0.mk (below_step (by repeat (first | (with_reducible first | exact HB.out | apply below_alloc | apply pw_below_drewN | apply below_drew1) | exact HB.out)) hb); clear HB; have HB := n0_; clear n0_; (try clear hb); (try clear hb2); (try clear hk); (try clear hi)) | ((with_reducible refine gate_callee (f := 11) rfl ?_); refine goesL_ (some 26) rfl rfl Tryd.func11 (by kernel_rfl) rfl #[.int .i64 a0] rfl (by (try simp only [List.map_toArray, List.map_cons, List.map_nil]); first | done | rfl | (simp only [List.length_drop, List.length_take]; rfl)) ?_; (with_reducible refine (airchecklaw01_NumberFrom.calls a0 t242 _ A6.out).mono ?_); rintro e w17 ⟨rfl, hb⟩; refine ⟨_, rfl, ?_⟩; have n0_ := Aside0.mk (below_step (by repeat (first | (with_reducible first | exact HB.out | apply below_alloc | apply pw_below_drewN | apply below_drew1) | exact HB.out)) hb); clear HB; have HB := n0_; clear n0_; (try clear hb); (try clear hb2); (try clear hk); (try clear hi)) | ((with_reducible refine gate_callee (f := 12) rfl ?_); refine goesL_ (some 27) rfl rfl Tryd.func12 (by kernel_rfl) rfl #[.int .i64 t242] rfl (by (try simp only [List.map_toArray, List.map_cons, List.map_nil]); first | done | rfl | (simp only [List.length_drop, List.length_take]; rfl)) ?_; (with_reducible refine (wire_PutInt.calls t242 t243 t244 _ A7.out).mono ?_); rintro e w18 ⟨rfl, hb⟩; refine ⟨_, rfl, ?_⟩; have n0_ := Aside0.mk (below_step (by repeat (first | (with_reducible first | exact HB.out | apply below_alloc | apply pw_below_drewN | apply below_drew1) | exact HB.out)) hb); clear HB; have HB := n0_; clear n0_; (try clear hb); (try clear hb2); (try clear hk); (try clear hi)) | ((with_reducible refine gate_callee (f := 11) rfl ?_); refine goesL_ (some 32) rfl rfl Tryd.func11 (by kernel_rfl) rfl #[.int .i64 a1] rfl (by (try simp only [List.map_toArray, List.map_cons, List.map_nil]); first | done | rfl | (simp only [List.length_drop, List.length_take]; rfl)) ?_; (with_reducible refine (airchecklaw01_NumberFrom.calls a1 t245 _ A8.out).mono ?_); rintro e w19 ⟨rfl, hb⟩; refine ⟨_, rfl, ?_⟩; have n0_ := Aside0.mk (below_step (by repeat (first | (with_reducible first | exact HB.out | apply below_alloc | apply pw_below_drewN | apply below_drew1) | exact HB.out)) hb); clear HB; have HB := n0_; clear n0_; (try clear hb); (try clear hb2); (try clear hk); (try clear hi)) | ((with_reducible refine gate_callee (f := 12) rfl ?_); refine goesL_ (some 33) rfl rfl Tryd.func12 (by kernel_rfl) rfl #[.int .i64 t245] rfl (by (try simp only [List.map_toArray, List.map_cons, List.map_nil]); first | done | rfl | (simp only [List.length_drop, List.length_take]; rfl)) ?_; (with_reducible refine (wire_PutInt.calls t245 t246 t247 _ A9.out).mono ?_); rintro e w20 ⟨rfl, hb⟩; refine ⟨_, rfl, ?_⟩; have n0_ := Aside0.mk (below_step (by repeat (first | (with_reducible first | exact HB.out | apply below_alloc | apply pw_below_drewN | apply below_drew1) | exact HB.out)) hb); clear HB; have HB := n0_; clear n0_; (try clear hb); (try clear hb2); (try clear hk); (try clear hi)) | ((with_reducible refine gate_callee (f := 19) rfl ?_); refine goesL_ (some 42) rfl rfl Tryd.func19 (by kernel_rfl) rfl #[.string js13] rfl (by (try simp only [List.map_toArray, List.map_cons, List.map_nil]); first | done | rfl | (simp only [List.length_drop, List.length_take]; rfl)) ?_; (with_reducible refine (wire_PutString.calls js13 t248 t249 _ A14.out).mono ?_); rintro e w21 ⟨rfl, hb⟩; refine ⟨_, rfl, ?_⟩; have n0_ := Aside0.mk (below_step (by repeat (first | (with_reducible first | exact HB.out | apply below_alloc | apply pw_below_drewN | apply below_drew1) | exact HB.out)) hb); clear HB; have HB := n0_; clear n0_; (try clear hb); (try clear hb2); (try clear hk); (try clear hi)))
      (try simp only [Act.put, List.setIfInBounds_toArray, List.set_cons_zero, List.set_cons_succ])
      go_cut [64] (fun v64 wc => ∃ (kq : Nat) (x64_14 : Bool), v64 = .bool x64_14 ∧ Aside0 (airchecklaw01_WireTruncated.j0 kq a0 a1 a3 t241 t243 t246 t248 x64_14 = some r) ∧ Aside0 (kq ≤ k) ∧ Aside0 (Below w.heap.size w wc))
      case first =>
        have H := HC15.out
        clear HC15
        by_cases c22 : t244 = 0
        · rw [if_pos c22] at H
          have c22b0 : (t244 == 0) = true := beq_iff_eq.mpr c22
          have c22b1 : (t244 != 0) = false := bne_eq_false_iff_eq.mpr c22
          clear c22
          (first | rw [c22b0] | (simp only [i64_w, i32_w]; rw [c22b0]) | skip)
          by_cases c23 : t247 = 0
          · rw [if_pos c23] at H
            have c23b0 : (t247 == 0) = true := beq_iff_eq.mpr c23
            have c23b1 : (t247 != 0) = false := bne_eq_false_iff_eq.mpr c23
            clear c23
            by_cases c24 : t249 = 0
            · rw [if_pos c24] at H
              have c24b0 : (t249 == 0) = true := beq_iff_eq.mpr c24
              have c24b1 : (t249 != 0) = false := bne_eq_false_iff_eq.mpr c24
              clear c24
              by_cases c25 : (t243.size : Int) = 0
              · rw [if_pos c25] at H
                have c25b0 : ((t243.size : Int) == 0) = true := beq_iff_eq.mpr c25
                have c25b1 : ((t243.size : Int) != 0) = false := bne_eq_false_iff_eq.mpr c25
                clear c25
                have H' := Aside0.mk H
                clear H
                go_wp2
                go_meet
                case rel => exact ⟨_, (true), (by first | rfl | (simp; done) | (simp [*]; done)), H', ⟨by first | omega | exact Nat.le_refl _⟩, ⟨by repeat (first | (with_reducible first | exact HB.out | apply below_alloc | apply pw_below_drewN | apply below_drew1) | exact HB.out)⟩⟩
              · rw [if_neg c25] at H
                have c25b0 : ((t243.size : Int) == 0) = false := beq_eq_false_iff_ne.mpr c25
                have c25b1 : ((t243.size : Int) != 0) = true := bne_iff_ne.mpr c25
                have H' := Aside0.mk H
                clear H
                go_wp2
                go_meet
                case rel => exact ⟨_, (((t248.size : Int) == 0)), (by first | rfl | (simp; done) | (simp [*]; done)), H', ⟨by first | omega | exact Nat.le_refl _⟩, ⟨by repeat (first | (with_reducible first | exact HB.out | apply below_alloc | apply pw_below_drewN | apply below_drew1) | exact HB.out)⟩⟩
            · rw [if_neg c24] at H
              have c24b0 : (t249 == 0) = false := beq_eq_false_iff_ne.mpr c24
              have c24b1 : (t249 != 0) = true := bne_iff_ne.mpr c24
              have H' := Aside0.mk H
              clear H
              go_wp2
              go_meet
              case rel => exact ⟨_, (true), (by first | rfl | (simp; done) | (simp [*]; done)), H', ⟨by first | omega | exact Nat.le_refl _⟩, ⟨by repeat (first | (with_reducible first | exact HB.out | apply below_alloc | apply pw_below_drewN | apply below_drew1) | exact HB.out)⟩⟩
          · rw [if_neg c23] at H
            have c23b0 : (t247 == 0) = false := beq_eq_false_iff_ne.mpr c23
            have c23b1 : (t247 != 0) = true := bne_iff_ne.mpr c23
            have H' := Aside0.mk H
            clear H
            go_wp2
            go_meet
            case rel => exact ⟨_, (true), (by first | rfl | (simp; done) | (simp [*]; done)), H', ⟨by first | omega | exact Nat.le_refl _⟩, ⟨by repeat (first | (with_reducible first | exact HB.out | apply below_alloc | apply pw_below_drewN | apply below_drew1) | exact HB.out)⟩⟩
        · rw [if_neg c22] at H
          have c22b0 : (t244 == 0) = false := beq_eq_false_iff_ne.mpr c22
          have c22b1 : (t244 != 0) = true := bne_iff_ne.mpr c22
          (first | rw [c22b0] | (simp only [i64_w, i32_w]; rw [c22b0]) | skip)
          have H' := Aside0.mk H
          clear H
          go_wp2
          go_meet
          case rel => exact ⟨_, (true), (by first | rfl | (simp; done) | (simp [*]; done)), H', ⟨by first | omega | exact Nat.le_refl _⟩, ⟨by repeat (first | (with_reducible first | exact HB.out | apply below_alloc | apply pw_below_drewN | apply below_drew1) | exact HB.out)⟩⟩
      case rest =>
        clear HC15
        try clear c1
        try clear c2
        try clear p2
        try clear c7
        try clear c10
        try clear c11
        try clear c11b0
        try clear c11b1
        try clear c12
        try clear c12b0
        try clear c12b1
        try clear c19
        try clear c22
        try clear c22b0
        try clear c22b1
        try clear c23
        try clear c23b0
        try clear c23b1
        try clear c24
        try clear c24b0
        try clear c24b1
        try clear c25
        try clear c25b0
        try clear c25b1
        obtain ⟨kq, x64_14, rfl, HA, HJ14, HB⟩ := hcut
        cases kq with
        | zero => exact absurd HA.out (by simp [airchecklaw01_WireTruncated.j0])
        | succ kj14 =>
          have H := HA.out
          clear HA
          simp only [airchecklaw01_WireTruncated.j0] at H
          by_cases c26 : x64_14 = true
          · subst c26
            have H1 : (some false) = some r := by rw [if_pos rfl] at H; exact H
            clear H
            have H := H1
            clear H1
            obtain rfl := Option.some.inj H
            go_wp2
            go_ret
            exact ⟨by first | rfl | (simp [errW_none, errW_some] <;> rfl) | (simp only [← hji10, ← hjs13]; first | rfl | (simp [errW_none, errW_some] <;> rfl)) | (simp [*, errW_none, errW_some] <;> rfl), by repeat (first | (with_reducible first | exact HB.out | apply below_alloc | apply pw_below_drewN | apply below_drew1) | exact HB.out)⟩
          · replace c26 := Bool.eq_false_iff.mpr c26
            subst c26
            have H1 : ((airchecklaw01_pick.f a3 (t243.size : Int)).bind fun t250 => (if 0 ≤ t250 then (if t250 ≤ (t243.size : Int) then ((wire_Int.f kj14 (t243.extract 0 (t250 : Int).toNat) 0).bind fun bt251 => ((airchecklaw01_pick.f a3 (t248.size : Int)).bind fun t254 => (if 0 ≤ t254 then (if t254 ≤ (t248.size : Int) then ((wire_String.f kj14 (t248.extract 0 (t254 : Int).toNat) 0).bind fun bt255 => (if (t243.size : Int) ≤ (t246.size : Int) then (if 0 ≤ (t243.size : Int) then (if t241 = true then (if bt251.2.2 = 10 then (if bt255.2.2 = 10 then ((airchecklaw01_NumberFrom.f a0).bind fun t258 => ((airchecklaw01_NumberFrom.f a1).bind fun t259 => (some (((t246.extract 0 ((t243.size : Int) : Int).toNat).toList == t243.toList) == (t258 == t259))))) else (some false)) else (some false)) else (some false)) else (none)) else (if t241 = true then (if bt251.2.2 = 10 then (if bt255.2.2 = 10 then ((airchecklaw01_NumberFrom.f a0).bind fun t260 => ((airchecklaw01_NumberFrom.f a1).bind fun t261 => (some (false == (t260 == t261))))) else (some false)) else (some false)) else (some false)))) else (none)) else (none)))) else (none)) else (none))) = some r := by rw [if_neg (show ¬ (false = true) by decide)] at H; exact H
            clear H
            have H := H1
            clear H1
            replace H := Option.bind_eq_some_iff.mp H
            obtain ⟨t250, A270, H⟩ := H
            replace H : (if 0 ≤ t250 then (if t250 ≤ (t243.size : Int) then ((wire_Int.f kj14 (t243.extract 0 (t250 : Int).toNat) 0).bind fun bt251 => ((airchecklaw01_pick.f a3 (t248.size : Int)).bind fun t254 => (if 0 ≤ t254 then (if t254 ≤ (t248.size : Int) then ((wire_String.f kj14 (t248.extract 0 (t254 : Int).toNat) 0).bind fun bt255 => (if (t243.size : Int) ≤ (t246.size : Int) then (if 0 ≤ (t243.size : Int) then (if t241 = true then (if bt251.2.2 = 10 then (if bt255.2.2 = 10 then ((airchecklaw01_NumberFrom.f a0).bind fun t258 => ((airchecklaw01_NumberFrom.f a1).bind fun t259 => (some (((t246.extract 0 ((t243.size : Int) : Int).toNat).toList == t243.toList) == (t258 == t259))))) else (some false)) else (some false)) else (some false)) else (none)) else (if t241 = true then (if bt251.2.2 = 10 then (if bt255.2.2 = 10 then ((airchecklaw01_NumberFrom.f a0).bind fun t260 => ((airchecklaw01_NumberFrom.f a1).bind fun t261 => (some (false == (t260 == t261))))) else (some false)) else (some false)) else (some false)))) else (none)) else (none)))) else (none)) else (none)) = some r := H
            have A27 := Aside0.mk A270
            clear A270
            by_cases c28 : 0 ≤ t250
            · rw [if_pos c28] at H
              have c28b0 := eq_true c28
              have c28b1 : decide (0 ≤ t250) = true := decide_eq_true c28
              clear c28
              by_cases c29 : t250 ≤ (t243.size : Int)
              · rw [if_pos c29] at H
                have c29b0 := eq_true c29
                have c29b1 : decide (t250 ≤ (t243.size : Int)) = true := decide_eq_true c29
                clear c29
                obtain ⟨js30, hjs30⟩ : ∃ s_ : ByteArray, (t243.extract 0 (t250 : Int).toNat) = s_ := ⟨_, rfl⟩
                replace H : ((wire_Int.f kj14 js30 0).bind fun bt251 => ((airchecklaw01_pick.f a3 (t248.size : Int)).bind fun t254 => (if 0 ≤ t254 then (if t254 ≤ (t248.size : Int) then ((wire_String.f kj14 (t248.extract 0 (t254 : Int).toNat) 0).bind fun bt255 => (if (t243.size : Int) ≤ (t246.size : Int) then (if 0 ≤ (t243.size : Int) then (if t241 = true then (if bt251.2.2 = 10 then (if bt255.2.2 = 10 then ((airchecklaw01_NumberFrom.f a0).bind fun t258 => ((airchecklaw01_NumberFrom.f a1).bind fun t259 => (some (((t246.extract 0 ((t243.size : Int) : Int).toNat).toList == t243.toList) == (t258 == t259))))) else (some false)) else (some false)) else (some false)) else (none)) else (if t241 = true then (if bt251.2.2 = 10 then (if bt255.2.2 = 10 then ((airchecklaw01_NumberFrom.f a0).bind fun t260 => ((airchecklaw01_NumberFrom.f a1).bind fun t261 => (some (false == (t260 == t261))))) else (some false)) else (some false)) else (some false)))) else (none)) else (none)))) = some r := by first | (rw [hjs30] at H; exact H) | (simp only [hjs30] at H ⊢; exact H) | exact H
                replace H := Option.bind_eq_some_iff.mp H
                obtain ⟨⟨t251, t252, t253⟩, A310, H⟩ := H
                replace H : ((airchecklaw01_pick.f a3 (t248.size : Int)).bind fun t254 => (if 0 ≤ t254 then (if t254 ≤ (t248.size : Int) then ((wire_String.f kj14 (t248.extract 0 (t254 : Int).toNat) 0).bind fun bt255 => (if (t243.size : Int) ≤ (t246.size : Int) then (if 0 ≤ (t243.size : Int) then (if t241 = true then (if t253 = 10 then (if bt255.2.2 = 10 then ((airchecklaw01_NumberFrom.f a0).bind fun t258 => ((airchecklaw01_NumberFrom.f a1).bind fun t259 => (some (((t246.extract 0 ((t243.size : Int) : Int).toNat).toList == t243.toList) == (t258 == t259))))) else (some false)) else (some false)) else (some false)) else (none)) else (if t241 = true then (if t253 = 10 then (if bt255.2.2 = 10 then ((airchecklaw01_NumberFrom.f a0).bind fun t260 => ((airchecklaw01_NumberFrom.f a1).bind fun t261 => (some (false == (t260 == t261))))) else (some false)) else (some false)) else (some false)))) else (none)) else (none))) = some r := H
                have A31 := Aside0.mk A310
                clear A310
                replace H := Option.bind_eq_some_iff.mp H
                obtain ⟨t254, A320, H⟩ := H
                replace H : (if 0 ≤ t254 then (if t254 ≤ (t248.size : Int) then ((wire_String.f kj14 (t248.extract 0 (t254 : Int).toNat) 0).bind fun bt255 => (if (t243.size : Int) ≤ (t246.size : Int) then (if 0 ≤ (t243.size : Int) then (if t241 = true then (if t253 = 10 then (if bt255.2.2 = 10 then ((airchecklaw01_NumberFrom.f a0).bind fun t258 => ((airchecklaw01_NumberFrom.f a1).bind fun t259 => (some (((t246.extract 0 ((t243.size : Int) : Int).toNat).toList == t243.toList) == (t258 == t259))))) else (some false)) else (some false)) else (some false)) else (none)) else (if t241 = true then (if t253 = 10 then (if bt255.2.2 = 10 then ((airchecklaw01_NumberFrom.f a0).bind fun t260 => ((airchecklaw01_NumberFrom.f a1).bind fun t261 => (some (false == (t260 == t261))))) else (some false)) else (some false)) else (some false)))) else (none)) else (none)) = some r := H
                have A32 := Aside0.mk A320
                clear A320
                by_cases c33 : 0 ≤ t254
                · rw [if_pos c33] at H
                  have c33b0 := eq_true c33
                  have c33b1 : decide (0 ≤ t254) = true := decide_eq_true c33
                  clear c33
                  by_cases c34 : t254 ≤ (t248.size : Int)
                  · rw [if_pos c34] at H
                    have c34b0 := eq_true c34
                    have c34b1 : decide (t254 ≤ (t248.size : Int)) = true := decide_eq_true c34
                    clear c34
                    obtain ⟨js35, hjs35⟩ : ∃ s_ : ByteArray, (t248.extract 0 (t254 : Int).toNat) = s_ := ⟨_, rfl⟩
                    replace H : ((wire_String.f kj14 js35 0).bind fun bt255 => (if (t243.size : Int) ≤ (t246.size : Int) then (if 0 ≤ (t243.size : Int) then (if t241 = true then (if t253 = 10 then (if bt255.2.2 = 10 then ((airchecklaw01_NumberFrom.f a0).bind fun t258 => ((airchecklaw01_NumberFrom.f a1).bind fun t259 => (some (((t246.extract 0 ((t243.size : Int) : Int).toNat).toList == t243.toList) == (t258 == t259))))) else (some false)) else (some false)) else (some false)) else (none)) else (if t241 = true then (if t253 = 10 then (if bt255.2.2 = 10 then ((airchecklaw01_NumberFrom.f a0).bind fun t260 => ((airchecklaw01_NumberFrom.f a1).bind fun t261 => (some (false == (t260 == t261))))) else (some false)) else (some false)) else (some false)))) = some r := by first | (rw [hjs35] at H; exact H) | (simp only [hjs35] at H ⊢; exact H) | exact H
                    replace H := Option.bind_eq_some_iff.mp H
                    obtain ⟨⟨t255, t256, t257⟩, A360, H⟩ := H
                    replace H : (if (t243.size : Int) ≤ (t246.size : Int) then (if 0 ≤ (t243.size : Int) then (if t241 = true then (if t253 = 10 then (if t257 = 10 then ((airchecklaw01_NumberFrom.f a0).bind fun t258 => ((airchecklaw01_NumberFrom.f a1).bind fun t259 => (some (((t246.extract 0 ((t243.size : Int) : Int).toNat).toList == t243.toList) == (t258 == t259))))) else (some false)) else (some false)) else (some false)) else (none)) else (if t241 = true then (if t253 = 10 then (if t257 = 10 then ((airchecklaw01_NumberFrom.f a0).bind fun t260 => ((airchecklaw01_NumberFrom.f a1).bind fun t261 => (some (false == (t260 == t261))))) else (some false)) else (some false)) else (some false))) = some r := H
                    have A36 := Aside0.mk A360
                    clear A360
                    by_cases c37 : (t243.size : Int) ≤ (t246.size : Int)
                    · rw [if_pos c37] at H
                      have c37b0 : decide ((t243.size : Int) ≤ (t246.size : Int)) = true := decide_eq_true c37
                      have c37b1 : decide (t243.size ≤ t246.size) = true := decide_eq_true (Int.ofNat_le.mp c37)
                      clear c37
                      by_cases c38 : 0 ≤ (t243.size : Int)
                      · rw [if_pos c38] at H
                        have c38b0 := eq_true c38
                        have c38b1 : decide (0 ≤ (t243.size : Int)) = true := decide_eq_true c38
                        clear c38
                        have c39b0 := eq_true (of_decide_eq_true (by first | (with_reducible assumption) | assumption) : (t243.size : Int) ≤ (t246.size : Int))
                        obtain ⟨js40, hjs40⟩ : ∃ s_ : ByteArray, (t246.extract 0 ((t243.size : Int) : Int).toNat) = s_ := ⟨_, rfl⟩
                        replace H : (if t241 = true then (if t253 = 10 then (if t257 = 10 then ((airchecklaw01_NumberFrom.f a0).bind fun t258 => ((airchecklaw01_NumberFrom.f a1).bind fun t259 => (some ((js40.toList == t243.toList) == (t258 == t259))))) else (some false)) else (some false)) else (some false)) = some r := by first | (rw [hjs40] at H; exact H) | (simp only [hjs40] at H ⊢; exact H) | exact H
                        by_cases c41 : t241 = true
                        · subst c41
                          have H1 : (if t253 = 10 then (if t257 = 10 then ((airchecklaw01_NumberFrom.f a0).bind fun t258 => ((airchecklaw01_NumberFrom.f a1).bind fun t259 => (some ((js40.toList == t243.toList) == (t258 == t259))))) else (some false)) else (some false)) = some r := by rw [if_pos rfl] at H; exact H
                          clear H
                          have H := H1
                          clear H1
                          by_cases c42 : t253 = 10
                          · rw [if_pos c42] at H
                            have c42b0 : (t253 == 10) = true := beq_iff_eq.mpr c42
                            have c42b1 : (t253 != 10) = false := bne_eq_false_iff_eq.mpr c42
                            clear c42
                            by_cases c43 : t257 = 10
                            · rw [if_pos c43] at H
                              have c43b0 : (t257 == 10) = true := beq_iff_eq.mpr c43
                              have c43b1 : (t257 != 10) = false := bne_eq_false_iff_eq.mpr c43
                              clear c43
                              replace H := Option.bind_eq_some_iff.mp H
                              obtain ⟨t258, A440, H⟩ := H
                              replace H : ((airchecklaw01_NumberFrom.f a1).bind fun t259 => (some ((js40.toList == t243.toList) == (t258 == t259)))) = some r := H
                              have A44 := Aside0.mk A440
                              clear A440
                              replace H := Option.bind_eq_some_iff.mp H
                              obtain ⟨t259, A450, H⟩ := H
                              replace H : (some ((js40.toList == t243.toList) == (t258 == t259))) = some r := H
                              have A45 := Aside0.mk A450
                              clear A450
                              obtain rfl := Option.some.inj H
                              go_wp2_with (first | ((with_reducible refine gate_callee (f := 14) rfl ?_); refine goesL_ (some 70) rfl rfl Tryd.func14 (by kernel_rfl) rfl #[.int .i64 a3, .int .i64 (t243.size : Int)] rfl (by (try simp only [List.map_toArray, List.map_cons, List.map_nil]); first | done | rfl | (simp only [List.length_drop, List.length_take]; rfl)) ?_; (with_reducible refine (airchecklaw01_pick.calls a3 (t243.size : Int) t250 _ A27.out).mono ?_); rintro e w' ⟨rfl, ⟨nd, rfl⟩⟩; refine ⟨_, rfl, ?_⟩) | ((with_reducible refine gate_callee (f := 15) rfl ?_); refine goesL_ (some 72) rfl rfl Tryd.func15 (by kernel_rfl) rfl #[.string js30, .int .i64 0] rfl (by (try simp only [List.map_toArray, List.map_cons, List.map_nil]); first | done | rfl | (simp only [List.length_drop, List.length_take]; rfl)) ?_; (with_reducible refine (wire_Int.calls kj14 js30 0 t251 t252 t253 _ A31.out).mono ?_); rintro e w' ⟨rfl, ⟨nd, rfl⟩⟩; refine ⟨_, rfl, ?_⟩) | ((with_reducible refine gate_callee (f := 14) rfl ?_); refine goesL_ (some 81) rfl rfl Tryd.func14 (by kernel_rfl) rfl #[.int .i64 a3, .int .i64 (t248.size : Int)] rfl (by (try simp only [List.map_toArray, List.map_cons, List.map_nil]); first | done | rfl | (simp only [List.length_drop, List.length_take]; rfl)) ?_; (with_reducible refine (airchecklaw01_pick.calls a3 (t248.size : Int) t254 _ A32.out).mono ?_); rintro e w' ⟨rfl, ⟨nd, rfl⟩⟩; refine ⟨_, rfl, ?_⟩) | ((with_reducible refine gate_callee (f := 17) rfl ?_); refine goesL_ (some 83) rfl rfl Tryd.func17 (by kernel_rfl) rfl #[.string js35, .int .i64 0] rfl (by (try simp only [List.map_toArray, List.map_cons, List.map_nil]); first | done | rfl | (simp only [List.length_drop, List.length_take]; rfl)) ?_; (with_reducible refine (wire_String.calls kj14 js35 0 t255 t256 t257 _ A36.out).mono ?_); rintro e w' ⟨rfl, ⟨nd, rfl⟩⟩; refine ⟨_, rfl, ?_⟩) | (go_at_call 11; (with_reducible refine (airchecklaw01_NumberFrom.calls a0 t258 _ A44.out).mono ?_); rintro e w46 ⟨rfl, hb⟩; have n0_ := Aside0.mk (below_step (by repeat (first | (with_reducible first | exact HB.out | apply below_alloc | apply pw_below_drewN | apply below_drew1) | exact HB.out)) hb); clear HB; have HB := n0_; clear n0_; (try clear hb); (try clear hb2); (try clear hk); (try clear hi)) | (go_at_call 11; (with_reducible refine (airchecklaw01_NumberFrom.calls a1 t259 _ A45.out).mono ?_); rintro e w47 ⟨rfl, hb⟩; have n0_ := Aside0.mk (below_step (by repeat (first | (with_reducible first | exact HB.out | apply below_alloc | apply pw_below_drewN | apply below_drew1) | exact HB.out)) hb); clear HB; have HB := n0_; clear n0_; (try clear hb); (try clear hb2); (try clear hk); (try clear hi)))
                              go_ret
                              exact ⟨by first | rfl | (simp [errW_none, errW_some] <;> rfl) | (simp only [← hji10, ← hjs13, ← hjs30, ← hjs35, ← hjs40]; first | rfl | (simp [errW_none, errW_some] <;> rfl)) | (simp [*, errW_none, errW_some] <;> rfl), by repeat (first | (with_reducible first | exact HB.out | apply below_alloc | apply pw_below_drewN | apply below_drew1) | exact HB.out)⟩
                            · rw [if_neg c43] at H
                              have c43b0 : (t257 == 10) = false := beq_eq_false_iff_ne.mpr c43
                              have c43b1 : (t257 != 10) = true := bne_iff_ne.mpr c43
                              obtain rfl := Option.some.inj H
                              go_wp2_with (first | ((with_reducible refine gate_callee (f := 14) rfl ?_); refine goesL_ (some 70) rfl rfl Tryd.func14 (by kernel_rfl) rfl #[.int .i64 a3, .int .i64 (t243.size : Int)] rfl (by (try simp only [List.map_toArray, List.map_cons, List.map_nil]); first | done | rfl | (simp only [List.length_drop, List.length_take]; rfl)) ?_; (with_reducible refine (airchecklaw01_pick.calls a3 (t243.size : Int) t250 _ A27.out).mono ?_); rintro e w' ⟨rfl, ⟨nd, rfl⟩⟩; refine ⟨_, rfl, ?_⟩) | ((with_reducible refine gate_callee (f := 15) rfl ?_); refine goesL_ (some 72) rfl rfl Tryd.func15 (by kernel_rfl) rfl #[.string js30, .int .i64 0] rfl (by (try simp only [List.map_toArray, List.map_cons, List.map_nil]); first | done | rfl | (simp only [List.length_drop, List.length_take]; rfl)) ?_; (with_reducible refine (wire_Int.calls kj14 js30 0 t251 t252 t253 _ A31.out).mono ?_); rintro e w' ⟨rfl, ⟨nd, rfl⟩⟩; refine ⟨_, rfl, ?_⟩) | ((with_reducible refine gate_callee (f := 14) rfl ?_); refine goesL_ (some 81) rfl rfl Tryd.func14 (by kernel_rfl) rfl #[.int .i64 a3, .int .i64 (t248.size : Int)] rfl (by (try simp only [List.map_toArray, List.map_cons, List.map_nil]); first | done | rfl | (simp only [List.length_drop, List.length_take]; rfl)) ?_; (with_reducible refine (airchecklaw01_pick.calls a3 (t248.size : Int) t254 _ A32.out).mono ?_); rintro e w' ⟨rfl, ⟨nd, rfl⟩⟩; refine ⟨_, rfl, ?_⟩) | ((with_reducible refine gate_callee (f := 17) rfl ?_); refine goesL_ (some 83) rfl rfl Tryd.func17 (by kernel_rfl) rfl #[.string js35, .int .i64 0] rfl (by (try simp only [List.map_toArray, List.map_cons, List.map_nil]); first | done | rfl | (simp only [List.length_drop, List.length_take]; rfl)) ?_; (with_reducible refine (wire_String.calls kj14 js35 0 t255 t256 t257 _ A36.out).mono ?_); rintro e w' ⟨rfl, ⟨nd, rfl⟩⟩; refine ⟨_, rfl, ?_⟩))
                              go_ret
                              exact ⟨by first | rfl | (simp [errW_none, errW_some] <;> rfl) | (simp only [← hji10, ← hjs13, ← hjs30, ← hjs35, ← hjs40]; first | rfl | (simp [errW_none, errW_some] <;> rfl)) | (simp [*, errW_none, errW_some] <;> rfl), by repeat (first | (with_reducible first | exact HB.out | apply below_alloc | apply pw_below_drewN | apply below_drew1) | exact HB.out)⟩
                          · rw [if_neg c42] at H
                            have c42b0 : (t253 == 10) = false := beq_eq_false_iff_ne.mpr c42
                            have c42b1 : (t253 != 10) = true := bne_iff_ne.mpr c42
                            obtain rfl := Option.some.inj H
                            go_wp2_with (first | ((with_reducible refine gate_callee (f := 14) rfl ?_); refine goesL_ (some 70) rfl rfl Tryd.func14 (by kernel_rfl) rfl #[.int .i64 a3, .int .i64 (t243.size : Int)] rfl (by (try simp only [List.map_toArray, List.map_cons, List.map_nil]); first | done | rfl | (simp only [List.length_drop, List.length_take]; rfl)) ?_; (with_reducible refine (airchecklaw01_pick.calls a3 (t243.size : Int) t250 _ A27.out).mono ?_); rintro e w' ⟨rfl, ⟨nd, rfl⟩⟩; refine ⟨_, rfl, ?_⟩) | ((with_reducible refine gate_callee (f := 15) rfl ?_); refine goesL_ (some 72) rfl rfl Tryd.func15 (by kernel_rfl) rfl #[.string js30, .int .i64 0] rfl (by (try simp only [List.map_toArray, List.map_cons, List.map_nil]); first | done | rfl | (simp only [List.length_drop, List.length_take]; rfl)) ?_; (with_reducible refine (wire_Int.calls kj14 js30 0 t251 t252 t253 _ A31.out).mono ?_); rintro e w' ⟨rfl, ⟨nd, rfl⟩⟩; refine ⟨_, rfl, ?_⟩) | ((with_reducible refine gate_callee (f := 14) rfl ?_); refine goesL_ (some 81) rfl rfl Tryd.func14 (by kernel_rfl) rfl #[.int .i64 a3, .int .i64 (t248.size : Int)] rfl (by (try simp only [List.map_toArray, List.map_cons, List.map_nil]); first | done | rfl | (simp only [List.length_drop, List.length_take]; rfl)) ?_; (with_reducible refine (airchecklaw01_pick.calls a3 (t248.size : Int) t254 _ A32.out).mono ?_); rintro e w' ⟨rfl, ⟨nd, rfl⟩⟩; refine ⟨_, rfl, ?_⟩) | ((with_reducible refine gate_callee (f := 17) rfl ?_); refine goesL_ (some 83) rfl rfl Tryd.func17 (by kernel_rfl) rfl #[.string js35, .int .i64 0] rfl (by (try simp only [List.map_toArray, List.map_cons, List.map_nil]); first | done | rfl | (simp only [List.length_drop, List.length_take]; rfl)) ?_; (with_reducible refine (wire_String.calls kj14 js35 0 t255 t256 t257 _ A36.out).mono ?_); rintro e w' ⟨rfl, ⟨nd, rfl⟩⟩; refine ⟨_, rfl, ?_⟩))
                            go_ret
                            exact ⟨by first | rfl | (simp [errW_none, errW_some] <;> rfl) | (simp only [← hji10, ← hjs13, ← hjs30, ← hjs35, ← hjs40]; first | rfl | (simp [errW_none, errW_some] <;> rfl)) | (simp [*, errW_none, errW_some] <;> rfl), by repeat (first | (with_reducible first | exact HB.out | apply below_alloc | apply pw_below_drewN | apply below_drew1) | exact HB.out)⟩
                        · replace c41 := Bool.eq_false_iff.mpr c41
                          subst c41
                          have H1 : (some false) = some r := by rw [if_neg (show ¬ (false = true) by decide)] at H; exact H
                          clear H
                          have H := H1
                          clear H1
                          obtain rfl := Option.some.inj H
                          go_wp2_with (first | ((with_reducible refine gate_callee (f := 14) rfl ?_); refine goesL_ (some 70) rfl rfl Tryd.func14 (by kernel_rfl) rfl #[.int .i64 a3, .int .i64 (t243.size : Int)] rfl (by (try simp only [List.map_toArray, List.map_cons, List.map_nil]); first | done | rfl | (simp only [List.length_drop, List.length_take]; rfl)) ?_; (with_reducible refine (airchecklaw01_pick.calls a3 (t243.size : Int) t250 _ A27.out).mono ?_); rintro e w' ⟨rfl, ⟨nd, rfl⟩⟩; refine ⟨_, rfl, ?_⟩) | ((with_reducible refine gate_callee (f := 15) rfl ?_); refine goesL_ (some 72) rfl rfl Tryd.func15 (by kernel_rfl) rfl #[.string js30, .int .i64 0] rfl (by (try simp only [List.map_toArray, List.map_cons, List.map_nil]); first | done | rfl | (simp only [List.length_drop, List.length_take]; rfl)) ?_; (with_reducible refine (wire_Int.calls kj14 js30 0 t251 t252 t253 _ A31.out).mono ?_); rintro e w' ⟨rfl, ⟨nd, rfl⟩⟩; refine ⟨_, rfl, ?_⟩) | ((with_reducible refine gate_callee (f := 14) rfl ?_); refine goesL_ (some 81) rfl rfl Tryd.func14 (by kernel_rfl) rfl #[.int .i64 a3, .int .i64 (t248.size : Int)] rfl (by (try simp only [List.map_toArray, List.map_cons, List.map_nil]); first | done | rfl | (simp only [List.length_drop, List.length_take]; rfl)) ?_; (with_reducible refine (airchecklaw01_pick.calls a3 (t248.size : Int) t254 _ A32.out).mono ?_); rintro e w' ⟨rfl, ⟨nd, rfl⟩⟩; refine ⟨_, rfl, ?_⟩) | ((with_reducible refine gate_callee (f := 17) rfl ?_); refine goesL_ (some 83) rfl rfl Tryd.func17 (by kernel_rfl) rfl #[.string js35, .int .i64 0] rfl (by (try simp only [List.map_toArray, List.map_cons, List.map_nil]); first | done | rfl | (simp only [List.length_drop, List.length_take]; rfl)) ?_; (with_reducible refine (wire_String.calls kj14 js35 0 t255 t256 t257 _ A36.out).mono ?_); rintro e w' ⟨rfl, ⟨nd, rfl⟩⟩; refine ⟨_, rfl, ?_⟩))
                          go_ret
                          exact ⟨by first | rfl | (simp [errW_none, errW_some] <;> rfl) | (simp only [← hji10, ← hjs13, ← hjs30, ← hjs35, ← hjs40]; first | rfl | (simp [errW_none, errW_some] <;> rfl)) | (simp [*, errW_none, errW_some] <;> rfl), by repeat (first | (with_reducible first | exact HB.out | apply below_alloc | apply pw_below_drewN | apply below_drew1) | exact HB.out)⟩
                      · rw [if_neg c38] at H
                        exact absurd H (by simp)
                    · rw [if_neg c37] at H
                      have c37b0 : decide ((t243.size : Int) ≤ (t246.size : Int)) = false := decide_eq_false c37
                      have c37b1 : decide (t243.size ≤ t246.size) = false := decide_eq_false (fun h => c37 (Int.ofNat_le.mpr h))
                      clear c37
                      by_cases c48 : t241 = true
                      · subst c48
                        have H1 : (if t253 = 10 then (if t257 = 10 then ((airchecklaw01_NumberFrom.f a0).bind fun t260 => ((airchecklaw01_NumberFrom.f a1).bind fun t261 => (some (false == (t260 == t261))))) else (some false)) else (some false)) = some r := by rw [if_pos rfl] at H; exact H
                        clear H
                        have H := H1
                        clear H1
                        by_cases c49 : t253 = 10
                        · rw [if_pos c49] at H
                          have c49b0 : (t253 == 10) = true := beq_iff_eq.mpr c49
                          have c49b1 : (t253 != 10) = false := bne_eq_false_iff_eq.mpr c49
                          clear c49
                          by_cases c50 : t257 = 10
                          · rw [if_pos c50] at H
                            have c50b0 : (t257 == 10) = true := beq_iff_eq.mpr c50
                            have c50b1 : (t257 != 10) = false := bne_eq_false_iff_eq.mpr c50
                            clear c50
                            replace H := Option.bind_eq_some_iff.mp H
                            obtain ⟨t260, A510, H⟩ := H
                            replace H : ((airchecklaw01_NumberFrom.f a1).bind fun t261 => (some (false == (t260 == t261)))) = some r := H
                            have A51 := Aside0.mk A510
                            clear A510
                            replace H := Option.bind_eq_some_iff.mp H
                            obtain ⟨t261, A520, H⟩ := H
                            replace H : (some (false == (t260 == t261))) = some r := H
                            have A52 := Aside0.mk A520
                            clear A520
                            obtain rfl := Option.some.inj H
                            go_wp2_with (first | ((with_reducible refine gate_callee (f := 14) rfl ?_); refine goesL_ (some 70) rfl rfl Tryd.func14 (by kernel_rfl) rfl #[.int .i64 a3, .int .i64 (t243.size : Int)] rfl (by (try simp only [List.map_toArray, List.map_cons, List.map_nil]); first | done | rfl | (simp only [List.length_drop, List.length_take]; rfl)) ?_; (with_reducible refine (airchecklaw01_pick.calls a3 (t243.size : Int) t250 _ A27.out).mono ?_); rintro e w' ⟨rfl, ⟨nd, rfl⟩⟩; refine ⟨_, rfl, ?_⟩) | ((with_reducible refine gate_callee (f := 15) rfl ?_); refine goesL_ (some 72) rfl rfl Tryd.func15 (by kernel_rfl) rfl #[.string js30, .int .i64 0] rfl (by (try simp only [List.map_toArray, List.map_cons, List.map_nil]); first | done | rfl | (simp only [List.length_drop, List.length_take]; rfl)) ?_; (with_reducible refine (wire_Int.calls kj14 js30 0 t251 t252 t253 _ A31.out).mono ?_); rintro e w' ⟨rfl, ⟨nd, rfl⟩⟩; refine ⟨_, rfl, ?_⟩) | ((with_reducible refine gate_callee (f := 14) rfl ?_); refine goesL_ (some 81) rfl rfl Tryd.func14 (by kernel_rfl) rfl #[.int .i64 a3, .int .i64 (t248.size : Int)] rfl (by (try simp only [List.map_toArray, List.map_cons, List.map_nil]); first | done | rfl | (simp only [List.length_drop, List.length_take]; rfl)) ?_; (with_reducible refine (airchecklaw01_pick.calls a3 (t248.size : Int) t254 _ A32.out).mono ?_); rintro e w' ⟨rfl, ⟨nd, rfl⟩⟩; refine ⟨_, rfl, ?_⟩) | ((with_reducible refine gate_callee (f := 17) rfl ?_); refine goesL_ (some 83) rfl rfl Tryd.func17 (by kernel_rfl) rfl #[.string js35, .int .i64 0] rfl (by (try simp only [List.map_toArray, List.map_cons, List.map_nil]); first | done | rfl | (simp only [List.length_drop, List.length_take]; rfl)) ?_; (with_reducible refine (wire_String.calls kj14 js35 0 t255 t256 t257 _ A36.out).mono ?_); rintro e w' ⟨rfl, ⟨nd, rfl⟩⟩; refine ⟨_, rfl, ?_⟩) | (go_at_call 11; (with_reducible refine (airchecklaw01_NumberFrom.calls a0 t260 _ A51.out).mono ?_); rintro e w53 ⟨rfl, hb⟩; have n0_ := Aside0.mk (below_step (by repeat (first | (with_reducible first | exact HB.out | apply below_alloc | apply pw_below_drewN | apply below_drew1) | exact HB.out)) hb); clear HB; have HB := n0_; clear n0_; (try clear hb); (try clear hb2); (try clear hk); (try clear hi)) | (go_at_call 11; (with_reducible refine (airchecklaw01_NumberFrom.calls a1 t261 _ A52.out).mono ?_); rintro e w54 ⟨rfl, hb⟩; have n0_ := Aside0.mk (below_step (by repeat (first | (with_reducible first | exact HB.out | apply below_alloc | apply pw_below_drewN | apply below_drew1) | exact HB.out)) hb); clear HB; have HB := n0_; clear n0_; (try clear hb); (try clear hb2); (try clear hk); (try clear hi)))
                            go_ret
                            exact ⟨by first | rfl | (simp [errW_none, errW_some] <;> rfl) | (simp only [← hji10, ← hjs13, ← hjs30, ← hjs35]; first | rfl | (simp [errW_none, errW_some] <;> rfl)) | (simp [*, errW_none, errW_some] <;> rfl), by repeat (first | (with_reducible first | exact HB.out | apply below_alloc | apply pw_below_drewN | apply below_drew1) | exact HB.out)⟩
                          · rw [if_neg c50] at H
                            have c50b0 : (t257 == 10) = false := beq_eq_false_iff_ne.mpr c50
                            have c50b1 : (t257 != 10) = true := bne_iff_ne.mpr c50
                            obtain rfl := Option.some.inj H
                            go_wp2_with (first | ((with_reducible refine gate_callee (f := 14) rfl ?_); refine goesL_ (some 70) rfl rfl Tryd.func14 (by kernel_rfl) rfl #[.int .i64 a3, .int .i64 (t243.size : Int)] rfl (by (try simp only [List.map_toArray, List.map_cons, List.map_nil]); first | done | rfl | (simp only [List.length_drop, List.length_take]; rfl)) ?_; (with_reducible refine (airchecklaw01_pick.calls a3 (t243.size : Int) t250 _ A27.out).mono ?_); rintro e w' ⟨rfl, ⟨nd, rfl⟩⟩; refine ⟨_, rfl, ?_⟩) | ((with_reducible refine gate_callee (f := 15) rfl ?_); refine goesL_ (some 72) rfl rfl Tryd.func15 (by kernel_rfl) rfl #[.string js30, .int .i64 0] rfl (by (try simp only [List.map_toArray, List.map_cons, List.map_nil]); first | done | rfl | (simp only [List.length_drop, List.length_take]; rfl)) ?_; (with_reducible refine (wire_Int.calls kj14 js30 0 t251 t252 t253 _ A31.out).mono ?_); rintro e w' ⟨rfl, ⟨nd, rfl⟩⟩; refine ⟨_, rfl, ?_⟩) | ((with_reducible refine gate_callee (f := 14) rfl ?_); refine goesL_ (some 81) rfl rfl Tryd.func14 (by kernel_rfl) rfl #[.int .i64 a3, .int .i64 (t248.size : Int)] rfl (by (try simp only [List.map_toArray, List.map_cons, List.map_nil]); first | done | rfl | (simp only [List.length_drop, List.length_take]; rfl)) ?_; (with_reducible refine (airchecklaw01_pick.calls a3 (t248.size : Int) t254 _ A32.out).mono ?_); rintro e w' ⟨rfl, ⟨nd, rfl⟩⟩; refine ⟨_, rfl, ?_⟩) | ((with_reducible refine gate_callee (f := 17) rfl ?_); refine goesL_ (some 83) rfl rfl Tryd.func17 (by kernel_rfl) rfl #[.string js35, .int .i64 0] rfl (by (try simp only [List.map_toArray, List.map_cons, List.map_nil]); first | done | rfl | (simp only [List.length_drop, List.length_take]; rfl)) ?_; (with_reducible refine (wire_String.calls kj14 js35 0 t255 t256 t257 _ A36.out).mono ?_); rintro e w' ⟨rfl, ⟨nd, rfl⟩⟩; refine ⟨_, rfl, ?_⟩))
                            go_ret
                            exact ⟨by first | rfl | (simp [errW_none, errW_some] <;> rfl) | (simp only [← hji10, ← hjs13, ← hjs30, ← hjs35]; first | rfl | (simp [errW_none, errW_some] <;> rfl)) | (simp [*, errW_none, errW_some] <;> rfl), by repeat (first | (with_reducible first | exact HB.out | apply below_alloc | apply pw_below_drewN | apply below_drew1) | exact HB.out)⟩
                        · rw [if_neg c49] at H
                          have c49b0 : (t253 == 10) = false := beq_eq_false_iff_ne.mpr c49
                          have c49b1 : (t253 != 10) = true := bne_iff_ne.mpr c49
                          obtain rfl := Option.some.inj H
                          go_wp2_with (first | ((with_reducible refine gate_callee (f := 14) rfl ?_); refine goesL_ (some 70) rfl rfl Tryd.func14 (by kernel_rfl) rfl #[.int .i64 a3, .int .i64 (t243.size : Int)] rfl (by (try simp only [List.map_toArray, List.map_cons, List.map_nil]); first | done | rfl | (simp only [List.length_drop, List.length_take]; rfl)) ?_; (with_reducible refine (airchecklaw01_pick.calls a3 (t243.size : Int) t250 _ A27.out).mono ?_); rintro e w' ⟨rfl, ⟨nd, rfl⟩⟩; refine ⟨_, rfl, ?_⟩) | ((with_reducible refine gate_callee (f := 15) rfl ?_); refine goesL_ (some 72) rfl rfl Tryd.func15 (by kernel_rfl) rfl #[.string js30, .int .i64 0] rfl (by (try simp only [List.map_toArray, List.map_cons, List.map_nil]); first | done | rfl | (simp only [List.length_drop, List.length_take]; rfl)) ?_; (with_reducible refine (wire_Int.calls kj14 js30 0 t251 t252 t253 _ A31.out).mono ?_); rintro e w' ⟨rfl, ⟨nd, rfl⟩⟩; refine ⟨_, rfl, ?_⟩) | ((with_reducible refine gate_callee (f := 14) rfl ?_); refine goesL_ (some 81) rfl rfl Tryd.func14 (by kernel_rfl) rfl #[.int .i64 a3, .int .i64 (t248.size : Int)] rfl (by (try simp only [List.map_toArray, List.map_cons, List.map_nil]); first | done | rfl | (simp only [List.length_drop, List.length_take]; rfl)) ?_; (with_reducible refine (airchecklaw01_pick.calls a3 (t248.size : Int) t254 _ A32.out).mono ?_); rintro e w' ⟨rfl, ⟨nd, rfl⟩⟩; refine ⟨_, rfl, ?_⟩) | ((with_reducible refine gate_callee (f := 17) rfl ?_); refine goesL_ (some 83) rfl rfl Tryd.func17 (by kernel_rfl) rfl #[.string js35, .int .i64 0] rfl (by (try simp only [List.map_toArray, List.map_cons, List.map_nil]); first | done | rfl | (simp only [List.length_drop, List.length_take]; rfl)) ?_; (with_reducible refine (wire_String.calls kj14 js35 0 t255 t256 t257 _ A36.out).mono ?_); rintro e w' ⟨rfl, ⟨nd, rfl⟩⟩; refine ⟨_, rfl, ?_⟩))
                          go_ret
                          exact ⟨by first | rfl | (simp [errW_none, errW_some] <;> rfl) | (simp only [← hji10, ← hjs13, ← hjs30, ← hjs35]; first | rfl | (simp [errW_none, errW_some] <;> rfl)) | (simp [*, errW_none, errW_some] <;> rfl), by repeat (first | (with_reducible first | exact HB.out | apply below_alloc | apply pw_below_drewN | apply below_drew1) | exact HB.out)⟩
                      · replace c48 := Bool.eq_false_iff.mpr c48
                        subst c48
                        have H1 : (some false) = some r := by rw [if_neg (show ¬ (false = true) by decide)] at H; exact H
                        clear H
                        have H := H1
                        clear H1
                        obtain rfl := Option.some.inj H
                        go_wp2_with (first | ((with_reducible refine gate_callee (f := 14) rfl ?_); refine goesL_ (some 70) rfl rfl Tryd.func14 (by kernel_rfl) rfl #[.int .i64 a3, .int .i64 (t243.size : Int)] rfl (by (try simp only [List.map_toArray, List.map_cons, List.map_nil]); first | done | rfl | (simp only [List.length_drop, List.length_take]; rfl)) ?_; (with_reducible refine (airchecklaw01_pick.calls a3 (t243.size : Int) t250 _ A27.out).mono ?_); rintro e w' ⟨rfl, ⟨nd, rfl⟩⟩; refine ⟨_, rfl, ?_⟩) | ((with_reducible refine gate_callee (f := 15) rfl ?_); refine goesL_ (some 72) rfl rfl Tryd.func15 (by kernel_rfl) rfl #[.string js30, .int .i64 0] rfl (by (try simp only [List.map_toArray, List.map_cons, List.map_nil]); first | done | rfl | (simp only [List.length_drop, List.length_take]; rfl)) ?_; (with_reducible refine (wire_Int.calls kj14 js30 0 t251 t252 t253 _ A31.out).mono ?_); rintro e w' ⟨rfl, ⟨nd, rfl⟩⟩; refine ⟨_, rfl, ?_⟩) | ((with_reducible refine gate_callee (f := 14) rfl ?_); refine goesL_ (some 81) rfl rfl Tryd.func14 (by kernel_rfl) rfl #[.int .i64 a3, .int .i64 (t248.size : Int)] rfl (by (try simp only [List.map_toArray, List.map_cons, List.map_nil]); first | done | rfl | (simp only [List.length_drop, List.length_take]; rfl)) ?_; (with_reducible refine (airchecklaw01_pick.calls a3 (t248.size : Int) t254 _ A32.out).mono ?_); rintro e w' ⟨rfl, ⟨nd, rfl⟩⟩; refine ⟨_, rfl, ?_⟩) | ((with_reducible refine gate_callee (f := 17) rfl ?_); refine goesL_ (some 83) rfl rfl Tryd.func17 (by kernel_rfl) rfl #[.string js35, .int .i64 0] rfl (by (try simp only [List.map_toArray, List.map_cons, List.map_nil]); first | done | rfl | (simp only [List.length_drop, List.length_take]; rfl)) ?_; (with_reducible refine (wire_String.calls kj14 js35 0 t255 t256 t257 _ A36.out).mono ?_); rintro e w' ⟨rfl, ⟨nd, rfl⟩⟩; refine ⟨_, rfl, ?_⟩))
                        go_ret
                        exact ⟨by first | rfl | (simp [errW_none, errW_some] <;> rfl) | (simp only [← hji10, ← hjs13, ← hjs30, ← hjs35]; first | rfl | (simp [errW_none, errW_some] <;> rfl)) | (simp [*, errW_none, errW_some] <;> rfl), by repeat (first | (with_reducible first | exact HB.out | apply below_alloc | apply pw_below_drewN | apply below_drew1) | exact HB.out)⟩
                  · rw [if_neg c34] at H
                    exact absurd H (by simp)
                · rw [if_neg c33] at H
                  exact absurd H (by simp)
              · rw [if_neg c29] at H
                exact absurd H (by simp)
            · rw [if_neg c28] at H
              exact absurd H (by simp)
    · rw [if_neg c12] at H
      exact absurd H (by simp)
  · rw [if_neg c11] at H
    exact absurd H (by simp)

end Go.Proofs.YtijnbalobinfiaaDoor.PW
