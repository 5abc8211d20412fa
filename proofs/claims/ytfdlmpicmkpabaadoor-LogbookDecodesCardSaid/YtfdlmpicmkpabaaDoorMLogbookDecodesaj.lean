import Derived.Test.YtfdlmpicmkpabaaDoorMLogbookDecodesah
import Derived.Test.YtfdlmpicmkpabaaDoorMLogbookDecodesac
import Derived.RangeFuncBox
import Derived.RangeFuncLeaves
import Derived.Shelf.Abstract
import Derived.WalkKit
import Derived.OwnWalkIn
import Derived.TacticsInMore
import Derived.LoopNIn
import Derived.LoopIn
import Derived.Sort.QuietIn
import Derived.Lib.Hide
/-
  Texts of this claim, one behind the other: what they prove stands above each.
-/
set_option linter.unusedVariables false
set_option linter.unusedSimpArgs false
section
namespace Go.Proofs.YtfdlmpicmkpabaaDoor.Ext
set_option maxRecDepth 100000
open Go.RowKit Go.Shelf
attribute [local go_sem] Oper.semAt_some
theorem chunk_walk(b:Nat)(n c:Nat)(w:World):
  Calls Tryd.prog 94 #[.slice (some ⟨b,0,none⟩) n c,.int .i64 64] w fun e w'=>e=.returned (.func (.func 106) #[] #[.pointer (some ⟨w.heap.size,0,none⟩),.pointer (some ⟨w.heap.size+1,0,none⟩)])∧w'=(w.alloc (.cells #[.slice (some ⟨b,0,none⟩) n c] 48)).alloc (.cells #[.int .i64 64] 3):=by
 go_enter Tryd.func94,Tryd.ntmps94
 go_wp2
 go_ret
 exact⟨rfl,rfl⟩
abbrev pieces(b:Nat)(j:Nat):Array Value:= #[.slice (some ⟨b,64*j,none⟩) 64 64]
set_option maxRecDepth 100000 in
set_option maxHeartbeats 1000000 in
theorem chunk1_gives(B b q m c:Nat)(hm:m=64*q)(hc:m<=c)(hc2:c<=9223372036854775807)(w:World)(hB:Blk w B 48 [.slice (some ⟨b,0,none⟩) m c])(hB1:Blk w (B+1) 3 [.int .i64 64]):
  GivesAllK Fence.wide 4 Tryd.prog 106 #[.pointer (some ⟨B,0,none⟩),.pointer (some ⟨B+1,0,none⟩)] (pieces b) (List.range q) (fun k=>k=B∨k=B+1) w:=fun l J W hW hJ hY h0=>by
 have hBW:=hB.belowS hW;have HM:=Lib.hid hm;clear hm;have hB1W:=hB1.belowS hW;refine callsIn_of_wp Tryd.func106 rfl trivial ?_ rfl;simp only[Tryd.ntmps106,List.size_toArray,List.length_cons,List.length_nil,Nat.reduceAdd,Nat.reduceSub,Array.replicate_succ,Array.replicate_zero,List.push_toArray,List.append_toArray,List.nil_append,List.cons_append]
 gi_wp2
 gi_loopw [4] (fun i wr=>∃j p:Nat,j<=q∧Hid (p=64*j)∧i=.int .i64 (p:Int)∧J (List.range j) wr∧Blk wr B 48 [.slice (some ⟨b,0,none⟩) m c]∧Blk wr (B+1) 3 [.int .i64 64]) (fun i wr=>m - (intOf i).toNat)
 case atStart=>exact⟨0,0,by omega,Lib.hid (by omega),by simp,h0,hBW,hB1W⟩
 case round=>
  clear hBW hB1W;obtain⟨j,p,hj,HP,rfl,hJj,hb0,hb1⟩:=hrel;have c0:wr.cell? ⟨B,0,none⟩=some (.slice (some ⟨b,0,none⟩) m c):=hb0.cell rfl;have c1:wr.cell? ⟨B+1,0,none⟩=some (.int .i64 64):=hb1.cell rfl
  by_cases hlt:j<q
  ·have hpm:p+64<=m:=by have:=HP.out;have:=HM.out;omega
   have d1:decide ((p:Int)<(m:Int))=true:=decide_eq_true (by omega);have p0:(0:Int)<=(p:Int):=by omega
   have p1:(p:Int)<=(m:Int):=by omega
   have p2:(p:Int)<=(c:Int):=by omega
   have pc:p≠c:=by omega
   have e1:IntKind.i64.wrap ((p:Int)+64)=(p:Int)+64:=IntWalk.i64_in _ (by omega);have e2:(p:Int)+64<=(c:Int):=by omega
   gi_wp2
   gi_quiet (fail)
   have hJd:J (List.range j) (wr.drewN nq):=hJ _ wr _ none hJj ⟨rfl,rfl,rfl,Nat.le_refl _,fun _ _ _=>rfl⟩ (fun r e=>by cases e);obtain⟨fn',tmps,assign,body,hy,hR⟩:=hY (List.range j) j (wr.drewN nq) hJd (by
    rw[<-List.range_succ];refine⟨(List.range q).drop (j+1),?_⟩;rw[show List.range (j+1)=(List.range q).take (j+1) by rw[List.take_range];congr 1;omega];exact List.take_append_drop _ _)
   dsimp only[pieces] at hy
   rw[<-HP.out] at hy
   gi_wp2
   refine hR.mono ?_
   rintro e W3 ⟨rfl,hJ3,hk3⟩
   have hb0':Blk W3 B 48 [.slice (some ⟨b,0,none⟩) m c]:=(Blk.drewN hb0 nq).move (hk3 B (Or.inl rfl));have hb1':Blk W3 (B+1) 3 [.int .i64 64]:=(Blk.drewN hb1 nq).move (hk3 (B+1) (Or.inr rfl));have d0:W3.cell? ⟨B,0,none⟩=some (.slice (some ⟨b,0,none⟩) m c):=hb0'.cell rfl;have d2:W3.cell? ⟨B+1,0,none⟩=some (.int .i64 64):=hb1'.cell rfl
   gi_wp2
   go_roundw
   case rel=>exact⟨j+1,p+64,by omega,Lib.hid (by rw[HP.out];omega),by go_num,by rw[List.range_succ];exact hJ3,hb0',hb1'⟩
   case measure=>simp[intOf];omega
  ·obtain rfl:j=q:=by omega
   have hpm:p=m:=by rw[HP.out,HM.out]
   subst hpm;have d1:decide ((p:Int)<(p:Int))=false:=by simp
   gi_wp2
   go_end0
   exact⟨⟨_,rfl⟩,hJj⟩
end Go.Proofs.YtfdlmpicmkpabaaDoor.Ext
end
