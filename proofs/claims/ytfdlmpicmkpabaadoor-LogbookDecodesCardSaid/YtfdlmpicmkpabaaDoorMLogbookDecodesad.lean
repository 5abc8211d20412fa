import Derived.Test.YtfdlmpicmkpabaaDoorMLogbookDecodesac
import Derived.Shelf.Strings.BuilderK
/-
  Texts of this claim, one behind the other: what they prove stands above each.
-/
set_option linter.unusedVariables false
set_option linter.unusedSimpArgs false
section
namespace Go.Proofs.YtfdlmpicmkpabaaDoor.Ext
set_option maxRecDepth 100000
open Go.RowKit Go.Shelf
theorem bw_size:(Tryd.prog.info? 85).map (·.size)=some 2:=by kernel_rfl
theorem bw_lies:liesAt Tryd.prog Tryd.prog.depth 87 (2 / Tryd.prog.cellsOf 87) 0 85 1=true:=by kernel_rfl
theorem bw_byte:(Tryd.prog.info? 5).map (fun i=>(i.zero,i.size,i.bytes))=some (some (.int .u8 0),1,1):=by kernel_rfl
theorem bw_cells:Tryd.prog.cellsOf 5=1:=by kernel_rfl
def Wr(B b:Nat)(l:List UInt8)(w:World):Prop:=Lib.IsBuilderF 87 5 B b (Lib.byteCells l) w
def WrU(B b:Nat)(l:List UInt8)(w:World):Prop:=Lib.BuilderAtF 87 5 B b (.pointer (some ⟨b,0,none⟩)) (Lib.byteCells l) w
theorem WrU.wr{B b:Nat}{l:List UInt8}{w:World}(h:WrU B b l w):Wr B b l w:=.inr h
theorem Wr.below{B b:Nat}{l:List UInt8}{W W':World}(h:Wr B b l W)(hb:Below W.heap.size W W'):Wr B b l W':=by
 have go:∀p,Lib.BuilderAtF 87 5 B b p (Lib.byteCells l) W->Lib.BuilderAtF 87 5 B b p (Lib.byteCells l) W':=fun p h=>by
  have hlt:=h.lt;obtain⟨hB,v,hv,hown,hne⟩:=h;exact⟨hB,v,(hb.block b hlt).trans hv,hown.kept (row:=none) ⟨hb.os,hb.tape,hb.output,hb.size,fun k hk _=>hb.block k hk⟩ (Classical.em _),hne⟩
 exact h.elim (fun x=>.inl (go _ x)) (fun x=>.inr (go _ x))
theorem Wr.new(W:World)(B b:Nat)(hB:B<=b)(hb:W.heap.size=b):Wr B b [] (W.alloc (.cells #[.pointer none,.slice none 0 0] 87)):=by
 subst hb;exact Lib.IsBuilderF.of (.inl ⟨hB,.slice none 0 0,(Blk.new _ _ [.pointer none,.slice none 0 0]).heap,World.ownsRow_nil _ _ _ _,fun e=>by cases e⟩)
theorem check_fresh(b:Nat)(w:World)(h0:w.cell? ⟨b,0,none⟩=some (.pointer none))(hsh:w.shape? b=some (87,2))(hfz:w.frozen? ⟨b,0,none⟩=false):
  Calls Tryd.prog 82 #[.pointer (some ⟨b,0,none⟩)] w fun e w'=>e=.returned (.tuple #[])∧w'=w.setCell ⟨b,0,none⟩ (.pointer (some ⟨b,0,none⟩)):=by
 obtain⟨j,hj,hjs⟩:=Option.map_eq_some_iff.1 bw_size
 go_enter Tryd.func82,Tryd.ntmps82
 go_wp2
 rw[Lib.run_to_unsafe w ⟨b,0,none⟩ Tryd.underlying83 Tryd.underlying152 hj (by rw[hjs];decide) hsh (Nat.zero_lt_succ 1)];simp only[Result.andThen];rw[Oper.upon_value]
 go_wp2
 rw[run_callFunc_extern Tryd.func99 (by kernel_rfl) (by kernel_rfl) (by kernel_rfl) (e:=Extern.AbiNoEscape.same) (by kernel_rfl)];rw[Lib.run_noEscape];simp only[Result.andThen];rw[Oper.upon_value]
 go_wp2
 rw[Lib.run_from_unsafe w ⟨b,0,none⟩ Tryd.underlying152 Tryd.underlying83 hj hsh bw_lies];simp only[Result.andThen];rw[Oper.upon_value]
 go_wp2
 exact⟨rfl,_,results_none rfl _ _ _,rfl,rfl⟩
theorem check_used(b:Nat)(w:World)(h0:w.cell? ⟨b,0,none⟩=some (.pointer (some ⟨b,0,none⟩))):
  Calls Tryd.prog 82 #[.pointer (some ⟨b,0,none⟩)] w fun e w'=>e=.returned (.tuple #[])∧w'=w:=by
 go_enter Tryd.func82,Tryd.ntmps82
 go_wp2
 obtain⟨j,hj,_⟩:=Option.map_eq_some_iff.1 bw_size;rw[Lib.run_neq_ptr_same w _ Tryd.underlying83 hj]
 go_wp2
 go_end0
 exact⟨rfl,rfl⟩
theorem check_walk(B b:Nat)(l:List UInt8)(w:World)(h:Wr B b l w):
  Calls Tryd.prog 82 #[.pointer (some ⟨b,0,none⟩)] w fun e w'=>e=.returned (.tuple #[])∧WrU B b l w'∧Below B w w'∧Lib.OthersKept 5 (some b) w w':=by
 rcases h with h |h
 ·refine (check_fresh b w h.cell0 h.shape h.frozen0).mono ?_
  rintro e w' ⟨rfl,rfl⟩
  exact⟨rfl,h.used _,(Below.refl B w).setCell (p:=⟨b,0,none⟩) h.1 _,(Lib.OthersKept.refl _ _ w).setCell ⟨b,0,none⟩ rfl _⟩
 ·refine (check_used b w h.cell0).mono ?_
  rintro e w' ⟨rfl,rfl⟩
  exact⟨rfl,h,Below.refl B _,Lib.OthersKept.refl _ _ _⟩
set_option maxHeartbeats 2000000 in
theorem write_walk(B b:Nat)(l:List UInt8)(s:ByteArray)(w:World)(h:Wr B b l w)(hlen:l.length+s.size<=140737488355328)(hBw:B<=w.heap.size):
  Calls Tryd.prog 54 #[.pointer (some ⟨b,0,none⟩),.string s] w fun e w'=>e=.returned (.tuple #[.int .i64 s.size,.nilIface])∧(WrU B b (l++s.data.toList) w'∧Below B w w'∧Lib.OthersKept 5 (some b) w w'):=by
 obtain⟨i0,hi,hz0,hz1,hz2⟩:=info_parts bw_byte
 go_enter Tryd.func54,Tryd.ntmps54
 go_wp2_with (go_at_call 82;(with_reducible refine (check_walk B b l w h).mono ?_))
 rintro e w1 ⟨rfl,h1,hb1,hk1⟩
 obtain⟨hB,v,hbk,hown,hne⟩:=h1;have c0:w1.cell? ⟨b,0,none⟩=some (.pointer (some ⟨b,0,none⟩)):=by rw[Lib.cell_of_heap hbk];rfl
 have c1:w1.cell? ⟨b,1,none⟩=some v:=by rw[Lib.cell_of_heap hbk];rfl
 have hlt:b<w1.heap.size:=(Array.getElem?_eq_some_iff.1 hbk).1;have hsz:=hb1.size;have hln:(Lib.byteCells l).length=l.length:=Lib.byteCells_length l
 go_wp2_with (at_builtin;refine Lib.wpList_append_own_stringF _ rfl _ _ 48 9 rfl B 5 i0 Tryd.underlying48 Tryd.underlying9 hi hz0 hz1 hz2 _ _ _ rfl hown s rfl ?c3 ?c4 ?c5 ?_)
 case c3=>unfold maxLen;omega
 case c4=>omega
 case c5=>omega
 intro v' w2 hown' hgrow _;have hb2:w2.heap[b]?=some (.cells #[.pointer (some ⟨b,0,none⟩),v] 87 (0,0)):=by
  rw[hgrow.block b hlt (fun e=>hne e.symm)];exact hbk
 have d0:w2.cell? ⟨b,0,none⟩=some (.pointer (some ⟨b,0,none⟩)):=by rw[Lib.cell_of_heap hb2];rfl
 have d1:w2.cell? ⟨b,1,none⟩=some v:=by rw[Lib.cell_of_heap hb2];rfl
 have f1:w2.frozen? ⟨b,1,none⟩=false:=Lib.frozen_of_heap hb2 1;obtain⟨ao,n',cap,rfl⟩:∃ao n' cap,v'=.slice ao n' cap:=by
  rcases hown'.2 with ⟨hv,_⟩ |⟨g,cap,cur,fz,hv,_⟩<;>exact⟨_,_,_,hv⟩
 go_wp2
 go_ret2
 refine⟨rfl,?_,?_,(hk1.grown hgrow (Lib.ownsRowF_kind hown)).setCell ⟨b,1,none⟩ rfl _⟩
 ·have e1:Lib.byteCells (l++s.data.toList)=Lib.byteCells l++Lib.strCells s:=by simp[Lib.byteCells,Lib.strCells]
  have e2:(Lib.byteCells (l++s.data.toList)).length=l.length+s.size:=by rw[Lib.byteCells_length,List.length_append];rfl
  have:=Lib.BuilderAtF.put (T:=87) (e:=5) hB hb2 (bs':=Lib.byteCells (l++s.data.toList)) (by rw[e2,e1];exact hown') (by decide);exact this
 ·exact (hb1.grown hgrow (by have:=hb1.size;omega) (fun k hk=>(hown.lt k hk).1)).setCell (p:=⟨b,1,none⟩) hB _
set_option maxHeartbeats 2000000 in
theorem string_walk(B b:Nat)(l:List UInt8)(w:World)(h:Wr B b l w)(h0:l≠[]):
  Calls Tryd.prog 55 #[.pointer (some ⟨b,0,none⟩)] w fun e w'=>e=.returned (.string ⟨l.toArray⟩)∧Below B w w':=by
 obtain⟨p,hAt⟩:∃p,Lib.BuilderAtF 87 5 B b p (Lib.byteCells l) w:=h.elim (fun x=>⟨_,x⟩) (fun x=>⟨_,x⟩)
 obtain⟨hB,v,hbk,hown,hne⟩:=hAt;have hl0:l.length≠0:=by simpa using h0
 rw[Lib.byteCells_length] at hown;obtain⟨g,cap,cur,fz,rfl,hbg,hg,hfz,hnc,hcm,hcs,htake⟩:∃g cap cur fz,v=.slice (some ⟨g,0,none⟩) l.length cap∧B<=g∧w.heap[g]?=some (.cells cur 5 fz)∧fz.2<=l.length*1∧l.length<=cap∧cap<=maxLen∧cur.size=cap*1∧cur.toList.take (l.length*1)=Lib.byteCells l:=by
  rcases hown.2 with ⟨_,hz⟩ |⟨g,cap,cur,fz,hv,r⟩
  ·exact absurd hz hl0
  ·exact⟨g,cap,cur,fz,hv,r⟩
 have c1:w.drew.cell? ⟨b,1,none⟩=some (.slice (some ⟨g,0,none⟩) l.length cap):=by
  have:w.drew.heap[b]?=some (.cells #[p,.slice (some ⟨g,0,none⟩) l.length cap] 87 (0,0)):=hbk;rw[Lib.cell_of_heap this];rfl
 have mixed:Tryd.prog.follows .mixedOrders=true:=by kernel_rfl
 have hSD:(Builtin.unsafeSliceData_ #[48] 126 #[.slice (some ⟨g,0,none⟩) l.length cap]).run Tryd.prog w.drew=.ok (.pointer (some ⟨g,0,none⟩)) w.drew:=Lib.run_unsafeSliceData_row _ _ _ _ _ _ (by omega);have hUS:(Builtin.unsafeString_ #[126,3] 9 #[.pointer (some ⟨g,0,none⟩),.int .i64 l.length]).run Tryd.prog w.drew=.ok (.string ⟨l.toArray⟩) (w.drew.freeze ⟨g,0,none⟩ l.length):=by
  refine Lib.run_unsafeString_row w.drew 126 3 9 5 Tryd.underlying126 bw_cells g cur.size (by have hg':w.drew.heap[g]?=some (.cells cur 5 fz):=hg;simp[World.shape?,hg']) l h0 (by omega) (by unfold maxLen at hcm;omega) ?_;intro j x hx;exact hown.cells (g:=g) rfl j (.int .u8 x.toNat) (by simp[Lib.byteCells,hx])
 go_enter Tryd.func55,Tryd.ntmps55
 go_wp2
 go_region_o
 all_goals (go_wp2;go_ret;exact⟨rfl,Lib.below_freeze (Below.drew (Below.refl B w)) (p:=⟨g,0,none⟩) hbg _⟩)
end Go.Proofs.YtfdlmpicmkpabaaDoor.Ext
end
