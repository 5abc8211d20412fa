import Derived.Test.YtooogaogbffjfaaDoorMBookHeadsMatchReferencebc
import Derived.Test.YtooogaogbffjfaaDoorMBookHeadsMatchReferencebe
import Derived.Test.YtooogaogbffjfaaDoorMBookHeadsMatchReferenceaz
import Derived.Test.YtooogaogbffjfaaDoorMBookHeadsMatchReferenceaj
import Derived.Shelf.Strings.BuilderK
import Derived.Deep.LoopGhost
/-
  Texts of this claim, one behind the other: what they prove stands above each.
-/
section
set_option linter.unusedVariables false
set_option linter.unusedSimpArgs false
namespace Go.Proofs.YtooogaogbffjfaaDoor.Ext
set_option maxRecDepth 100000
open Go.RowKit Go.Shelf Go.Proofs.YtooogaogbffjfaaDoorW.PrintWords Go.Proofs.YtooogaogbffjfaaDoorW.PrintLast Go.Proofs.YtooogaogbffjfaaDoorW.PrintMore Go.Proofs.YtooogaogbffjfaaDoor.Bk
attribute [local go_sem] Oper.semAt_some
theorem write_walk (B b : Nat) (bs : List Value) (s : ByteArray) (w : World) (h : Lib.IsBuilderF 59 5 B b bs w) (hlen : bs.length + s.size ≤ 140737488355328) (hBw : B ≤ w.heap.size) :
    Calls Tryd.prog 26 #[.pointer (some ⟨b, 0, none⟩), .string s] w fun e w' => e = .returned (.tuple #[.int .i64 s.size, .nilIface]) ∧ (Lib.BuilderAtF 59 5 B b (.pointer (some ⟨b, 0, none⟩)) (bs ++ Lib.strCells s) w' ∧ Below B w w' ∧ Lib.OthersKept 5 (some b) w w') :=
  Any.Builder_WriteString_k { YtooogaogbffjfaaDoorjoin.lays156 with } YtooogaogbffjfaaDoorjoin.extra156 B b bs s w h hlen hBw
theorem string_walk (B b : Nat) (l : List UInt8) (w : World) (h : Lib.IsBuilderF 59 5 B b (Lib.byteCells l) w) (hBw : B ≤ w.heap.size) :
    Calls Tryd.prog 27 #[.pointer (some ⟨b, 0, none⟩)] w fun e w' => e = .returned (.string ⟨l.toArray⟩) ∧ (Lib.IsBuilderF 59 5 B b (Lib.byteCells l) w' ∧ Below B w w' ∧ Lib.OthersKept 5 (some b) w w') :=
  Any.Builder_String_any_k { YtooogaogbffjfaaDoorjoin.lays156 with } YtooogaogbffjfaaDoorjoin.extra156 B b l w h hBw
theorem bld_below {T e : TypeId} {B b : Nat} {bs : List Value} {W W' : World} (h : Lib.IsBuilderF T e B b bs W) (hb : Below W.heap.size W W') : Lib.IsBuilderF T e B b bs W' := by
  have go : ∀ p, Lib.BuilderAtF T e B b p bs W → Lib.BuilderAtF T e B b p bs W' := fun p h => by
    have hlt := h.lt
    obtain ⟨hB, v, hv, hown, hne⟩ := h
    exact ⟨hB, v, (hb.block b hlt).trans hv, hown.kept (row := none) ⟨hb.os, hb.tape, hb.output, hb.size, fun k hk _ => hb.block k hk⟩ (Classical.em _), hne⟩
  exact h.elim (fun x => .inl (go _ x)) (fun x => .inr (go _ x))
def encOk (n : Int) : Bool := decide (-4611686018427387903 ≤ n ∧ n ≤ 4611686018427387903)
def fldL (p : S27) : List Int := [p.f0, p.f1, p.f2, p.f3, p.f4, p.f5, p.f6]
def encL (l : List Int) : List Nat := (l.map Leb.enc).flatten
theorem encL_fld (p : S27) : encL (fldL p) = encP p := rfl
def okP (p : S27) : Bool := (fldL p).all encOk
def encF (p : S27) : ByteArray × Int := if okP p then (str (encP p), 0) else (⟨#[]⟩, 240)
theorem put_yes (n : Int) (h : encOk n = true) (w : World) : Calls Tryd.prog 25 #[.int .i64 n] w fun e w' => e = .returned (.tuple #[.string (str (Leb.enc n)), .int .i64 0]) ∧ Below w.heap.size w w' :=
  wire_PutInt.calls n _ _ w (by have := of_decide_eq_true h; unfold wire_PutInt.f; rw [if_neg (by omega), if_neg (by omega)])
theorem put_no (n : Int) (h : encOk n = false) (w : World) : Calls Tryd.prog 25 #[.int .i64 n] w fun e w' => e = .returned (.tuple #[.string ⟨#[]⟩, .int .i64 10]) ∧ Below w.heap.size w w' :=
  wire_PutInt.calls n _ _ w (by
    have := of_decide_eq_false h
    unfold wire_PutInt.f
    by_cases h1 : n < -4611686018427387903
    · rw [if_pos h1]
    · rw [if_neg h1, if_pos (by omega)])
def u8s (l : List Nat) : List UInt8 := l.map UInt8.ofNat
theorem cells_snoc (l : List Int) (n : Int) : Lib.byteCells (u8s (encL l)) ++ Lib.strCells (str (Leb.enc n)) = Lib.byteCells (u8s (encL (l ++ [n]))) := by
  show Lib.byteCells (u8s (encL l)) ++ Lib.byteCells (u8s (Leb.enc n)) = _
  simp [Lib.byteCells, u8s, encL]
theorem enc_one (n : Int) (h : encOk n = true) : (Leb.enc n).length ≤ 9 := by
  have h := of_decide_eq_true h
  refine Leb.leb_length 8 _ ?_
  unfold Leb.zig
  split <;> omega
theorem enc_len (l : List Int) (h : l.all encOk = true) : (encL l).length ≤ 9 * l.length := by
  induction l with
  | nil => simp [encL]
  | cons a l ih =>
    rw [List.all_cons, Bool.and_eq_true] at h
    have h1 := enc_one a h.1
    have h2 := ih h.2
    unfold encL at h2 ⊢
    rw [List.map_cons, List.flatten_cons, List.length_append, List.length_cons]
    omega
theorem cells_len (l : List Nat) : (Lib.byteCells (u8s l)).length = l.length := by simp [Lib.byteCells, u8s]
theorem str_size (l : List Nat) : (str l).size = l.length := by simp [str, ByteArray.size]
theorem fld_take (p : S27) (k : Nat) (h : k < 7) : (fldL p).take (k + 1) = (fldL p).take k ++ [(fldL p).getD k 0] := by
  have hk : k < (fldL p).length := h
  rw [List.take_add_one, List.getElem?_eq_getElem hk, List.getD_eq_getElem?_getD, List.getElem?_eq_getElem hk]
  rfl
theorem fld_cell (p : S27) (k : Nat) (h : k < 7) : ((fldL p).map (Value.int .i64))[k]? = some (.int .i64 ((fldL p).getD k 0)) := by
  have hk : k < (fldL p).length := h
  rw [List.getElem?_map, List.getD_eq_getElem?_getD, List.getElem?_eq_getElem hk]
  rfl
set_option maxHeartbeats 2000000 in
theorem encode_walk (p : S27) (w : World) :
    Calls Tryd.prog 6 #[.agg #[.int .i64 p.f0, .int .i64 p.f1, .int .i64 p.f2, .int .i64 p.f3, .int .i64 p.f4, .int .i64 p.f5, .int .i64 p.f6]] w fun e w' => e = .returned (.tuple #[.string (encF p).1, .int .i64 (encF p).2]) ∧ Below w.heap.size w w' := by
  go_enter Tryd.func6, Tryd.ntmps6
  go_wp2
  have hbw : Below w.heap.size w (((w.alloc (.cells #[.int .i64 p.f0, .int .i64 p.f1, .int .i64 p.f2, .int .i64 p.f3, .int .i64 p.f4, .int .i64 p.f5, .int .i64 p.f6] 27)).alloc (.cells #[.pointer none, .slice none 0 0] 59)).alloc (.cells #[.int .i64 p.f0, .int .i64 p.f1, .int .i64 p.f2, .int .i64 p.f3, .int .i64 p.f4, .int .i64 p.f5, .int .i64 p.f6] 3)) := (((Below.refl _ _).alloc (Nat.le_refl _) _).alloc (by simp) _).alloc (by simp; omega) _
  have hsz : (w.alloc (.cells #[.int .i64 p.f0, .int .i64 p.f1, .int .i64 p.f2, .int .i64 p.f3, .int .i64 p.f4, .int .i64 p.f5, .int .i64 p.f6] 27)).heap.size = w.heap.size + 1 := by simp
  have hbl : Lib.IsBuilderF 59 5 w.heap.size (w.heap.size + 1) (Lib.byteCells (u8s (encL ((fldL p).take 0)))) (((w.alloc (.cells #[.int .i64 p.f0, .int .i64 p.f1, .int .i64 p.f2, .int .i64 p.f3, .int .i64 p.f4, .int .i64 p.f5, .int .i64 p.f6] 27)).alloc (.cells #[.pointer none, .slice none 0 0] 59)).alloc (.cells #[.int .i64 p.f0, .int .i64 p.f1, .int .i64 p.f2, .int .i64 p.f3, .int .i64 p.f4, .int .i64 p.f5, .int .i64 p.f6] 3)) := by
    refine Lib.IsBuilderF.of (.inl ⟨by omega, .slice none 0 0, ?_, World.ownsRow_nil _ _ _ _, fun e => by cases e⟩)
    rw [Below.heap_alloc _ _ _ (by simp)]
    rw [← hsz]
    exact (Blk.new _ _ [.pointer none, .slice none 0 0]).heap
  have hlt : Blk (((w.alloc (.cells #[.int .i64 p.f0, .int .i64 p.f1, .int .i64 p.f2, .int .i64 p.f3, .int .i64 p.f4, .int .i64 p.f5, .int .i64 p.f6] 27)).alloc (.cells #[.pointer none, .slice none 0 0] 59)).alloc (.cells #[.int .i64 p.f0, .int .i64 p.f1, .int .i64 p.f2, .int .i64 p.f3, .int .i64 p.f4, .int .i64 p.f5, .int .i64 p.f6] 3)) (w.heap.size + 2) 3 ((fldL p).map (Value.int .i64)) := by
    have := Blk.new ((w.alloc (.cells #[.int .i64 p.f0, .int .i64 p.f1, .int .i64 p.f2, .int .i64 p.f3, .int .i64 p.f4, .int .i64 p.f5, .int .i64 p.f6] 27)).alloc (.cells #[.pointer none, .slice none 0 0] 59)) 3 ((fldL p).map (Value.int .i64))
    have e : w.heap.size + 2 = ((w.alloc (.cells #[.int .i64 p.f0, .int .i64 p.f1, .int .i64 p.f2, .int .i64 p.f3, .int .i64 p.f4, .int .i64 p.f5, .int .i64 p.f6] 27)).alloc (.cells #[.pointer none, .slice none 0 0] 59)).heap.size := by simp
    rw [e]
    exact this
  clear hsz
  generalize (((w.alloc (.cells #[.int .i64 p.f0, .int .i64 p.f1, .int .i64 p.f2, .int .i64 p.f3, .int .i64 p.f4, .int .i64 p.f5, .int .i64 p.f6] 27)).alloc (.cells #[.pointer none, .slice none 0 0] 59)).alloc (.cells #[.int .i64 p.f0, .int .i64 p.f1, .int .i64 p.f2, .int .i64 p.f3, .int .i64 p.f4, .int .i64 p.f5, .int .i64 p.f6] 3)) = ws at *
  go_loopw [25] (fun i wr => ∃ k : Nat, k ≤ 7 ∧ i = .int .i64 (k : Int) ∧ Hid (Lib.IsBuilderF 59 5 w.heap.size (w.heap.size + 1) (Lib.byteCells (u8s (encL ((fldL p).take k)))) wr) ∧ Hid (Blk wr (w.heap.size + 2) 3 ((fldL p).map (Value.int .i64))) ∧ Hid (Below w.heap.size w wr) ∧ Hid (((fldL p).take k).all encOk = true)) (fun i wr => 7 - (intOf i).toNat)
  case atStart => exact ⟨0, by omega, rfl, Lib.hid hbl, Lib.hid hlt, Lib.hid hbw, Lib.hid rfl⟩
  case round =>
    obtain ⟨k, hk, rfl, HB, HL, HW, HO⟩ := hrel
    by_cases hlt : k < 7
    · have hx := HL.out.cell (fld_cell p k hlt)
      have hst := fld_take p k hlt
      obtain ⟨x, hxe⟩ : ∃ x, (fldL p).getD k 0 = x := ⟨_, rfl⟩
      rw [hxe] at hx hst
      have HST := Lib.hid hst
      have HXE := Lib.hid hxe
      clear hst hxe hbl hbw
      cases ho : encOk x with
      | true =>
        have HY := Lib.hid ho
        clear ho
        have hl9 := enc_one x HY.out
        have hle := enc_len _ HO.out
        rw [← cells_len, List.length_take] at hle
        have hl7 : (fldL p).length = 7 := rfl
        rw [hl7] at hle
        have hlen : (Lib.byteCells (u8s (encL ((fldL p).take k)))).length + (str (Leb.enc x)).size ≤ 140737488355328 := by rw [str_size]; omega
        have HLEN := Lib.hid hlen
        clear hle hl9 hl7 hlen
        go_wp2_with (first | (go_at_call 25; (with_reducible refine (put_yes x HY.out _).mono ?_); rintro e w2 ⟨rfl, hb2⟩) | (go_at_call 26; (with_reducible refine (write_walk w.heap.size (w.heap.size + 1) _ _ w2 (bld_below HB.out hb2) HLEN.out (Nat.le_trans HW.out.size hb2.size)).mono ?_); rintro e w3 ⟨rfl, hb3, hw3, hk3⟩) | fail)
        go_roundw
        case rel =>
          refine ⟨k + 1, by omega, by go_num, Lib.hid ?_, Lib.hid ?_, Lib.hid ?_, Lib.hid ?_⟩
          · rw [HST.out, ← cells_snoc]
            exact .inr hb3
          · exact hk3 _ _ (HL.out.belowS hb2).heap (by simp) (fun c fz h => by injection h with _ h2; cases h2)
          · exact Below.trans HW.out (Below.trans (hb2.mono HW.out.size) hw3)
          · rw [HST.out, List.all_append, HO.out, List.all_cons, HY.out]; rfl
        case measure => simp [intOf]; omega
      | false =>
        have HY := Lib.hid ho
        clear ho
        go_wp2_with (first | (go_at_call 25; (with_reducible refine (put_no x HY.out _).mono ?_); rintro e w2 ⟨rfl, hb2⟩) | fail)
        go_ret2
        have hno : okP p = false := by
          unfold okP
          rw [← List.take_append_drop (k + 1) (fldL p), List.all_append, HST.out, List.all_append, List.all_cons, HY.out]
          simp
        unfold encF
        rw [hno]
        exact ⟨rfl, Below.trans HW.out (hb2.mono HW.out.size)⟩
    · obtain rfl : k = 7 := by omega
      have hB := HB.out
      rw [show (fldL p).take 7 = fldL p from rfl, encL_fld] at hB
      have HB := Lib.hid hB
      clear hB hbl hbw
      go_wp2_with (first | (go_at_call 27; (with_reducible refine (string_walk w.heap.size (w.heap.size + 1) _ _ HB.out HW.out.size).mono ?_); rintro e w3 ⟨rfl, hb3, hw3, hk3⟩) | fail)
      go_ret2
      have hyes : okP p = true := HO.out
      unfold encF
      rw [hyes]
      exact ⟨rfl, Below.trans HW.out hw3⟩
end Go.Proofs.YtooogaogbffjfaaDoor.Ext
end
