import Derived.Test.YtfdlmpicmkpabaaDoorMLogbookDecodesar
import Derived.Test.YtfdlmpicmkpabaaDoorMLogbookDecodesah
/-
  Texts of this claim, one behind the other: what they prove stands above each.
-/
set_option linter.unusedVariables false
set_option linter.unusedSimpArgs false
section
namespace Go.Proofs.YtfdlmpicmkpabaaDoor.Ext
set_option maxRecDepth 100000
open Go.RowKit Go.Shelf Go.Proofs.YtfdlmpicmkpabaaDoorW.PrintWords Go.Proofs.YtfdlmpicmkpabaaDoorW.PrintLast Go.Proofs.YtfdlmpicmkpabaaDoorW.PrintMore
attribute [local go_sem] Oper.semAt_some
def GivesStop{α:Type}(F:Fence)(n:Nat)(P:Program)(g:Nat)(lb:Array Value)(encs:α->Array Value)(xs:List α)(KS:Nat->Prop)(w:World):Prop:=
 ∀(l:Nat) (J Jx:List α->World->Prop) (W:World),Below w.heap.size w W->AbidesFrom W.heap.size J->AbidesFrom W.heap.size Jx->
  (∀pre x W1,J pre W1->pre++[x]<+:xs->YieldAt F (n - 1) P l (encs x) W1 fun e W'=>(e=.returned (.bool true)∧J (pre++[x]) W'∧∀k,KS k->W'.heap[k]?=W1.heap[k]?)∨(e=.returned (.bool false)∧Jx (pre++[x]) W'))->
  J [] W->CallsIn F n P g (#[.func (.yield l) #[] #[]]++lb) W fun e W'=>(∃v,e=.returned v)∧(J xs W'∨∃pre,pre<+:xs∧Jx pre W')
theorem GivesStop.all{α:Type}{F:Fence}{n:Nat}{P:Program}{g:Nat}{lb:Array Value}{encs:α->Array Value}{xs:List α}{KS:Nat->Prop}{w:World}(h:GivesStop F n P g lb encs xs KS w):GivesAllK F n P g lb encs xs KS w:=
 fun l J W hW hJ hY h0=>(h l J (fun _ _=>False) W hW hJ (fun _ _ _ _ hs _ _=>hs) (fun pre x W1 hj hp=>by
  obtain⟨fn,tmps,assign,body,hy,hR⟩:=hY pre x W1 hj hp;exact⟨fn,tmps,assign,body,hy,hR.mono (fun e w' hr=>.inl hr)⟩) h0).mono fun e W' ⟨hv,hh⟩=>⟨hv,hh.elim id fun⟨_,_,hf⟩=>hf.elim⟩
theorem GivesStop.stops{α:Type}{F:Fence}{n:Nat}{P:Program}{g:Nat}{lb:Array Value}{encs:α->Array Value}{xs:List α}{KS:Nat->Prop}{w:World}(h:GivesStop F n P g lb encs xs KS w):
  SeqStopsK F n P g lb encs (fun W W'=>∀k,KS k->W'.heap[k]?=W.heap[k]?) (fun ys=>ys=xs) (fun pre=>pre<+:xs) xs.length w:=
 fun l J Jx W hW hJ hJx hY h0=>(h l J Jx W hW hJ hJx (fun pre x W1 hj hp=>hY pre x W1 hj (by
  have:=hp.length_le;rw[List.length_append,List.length_singleton] at this;omega)) h0).mono fun e W' ⟨hv,hh⟩=>⟨hv,hh.elim (fun hj=>.inl ⟨_,rfl,hj⟩) (fun⟨pre,hp,hj⟩=>.inr ⟨pre,hp,hj⟩)⟩
theorem cell_same{W W':World}{a:Addr}{v:Value}(e:W'.heap[a.block]?=W.heap[a.block]?)(h:W.cell? a=some v):W'.cell? a=some v:=by
 rw[<-h];simp[World.cell?,e]
theorem cell_at{W W':World}{ad:Addr}(e:W'.heap[ad.block]?=W.heap[ad.block]?){a:Addr}{v:Value}(ha:a.block=ad.block)(h:W.cell? a=some v):W'.cell? a=some v:=cell_same (by rw[ha];exact e) h
theorem add_blk(a:Addr)(i:Nat):(a.add i).block=a.block:=by unfold Addr.add;split<;>rfl
def recsB(rs:List Rec):List (Nat × Rec):=(List.range rs.length).reverse.map fun i=>(i,rd_T43 rs (i:Int))
abbrev pairR(p:Nat × Rec):Array Value:= #[.int .i64 (p.1:Int),rval p.2]
theorem recsB_len(rs:List Rec):(recsB rs).length=rs.length:=by simp[recsB]
theorem recsB_step(rs:List Rec)(j:Nat)(hj:j<rs.length):(recsB rs).take (j+1)=(recsB rs).take j++[(rs.length - 1 - j,rd_T43 rs ((rs.length - 1 - j:Nat):Int))]:=by
 rw[List.take_succ_eq_append_getElem (by rw[recsB_len];exact hj)];simp[recsB]
theorem lbBack_walk(st:Int)(A:Option Addr)(n c:Nat)(w:World):
  Calls Tryd.prog 62 #[.agg #[.int .i64 st,.slice A n c]] w fun e w'=>e=.returned (.func (.func 83) #[] #[.pointer (some ⟨w.heap.size,0,none⟩)])∧w'=w.alloc (.cells #[.int .i64 st,.slice A n c] 26):=by
 go_enter Tryd.func62,Tryd.ntmps62
 go_wp2
 go_ret
 exact⟨rfl,rfl⟩
set_option maxHeartbeats 2000000 in
theorem backR_gives(n0 B:Nat)(st:Int)(A:Option Addr)(m c:Nat)(rs:List Rec)(hm:rs.length=m)(hm2:m<1000000000)(w:World)(hB:Blk w B 26 [.int .i64 st,.slice A m c])(hC:Kd.C kRec w A m rs)(hA:∀ad,A=some ad->0<m->ad.block<n0)(hn0:n0<=w.heap.size):
  GivesStop Fence.wide 4 Tryd.prog 83 #[.pointer (some ⟨B,0,none⟩)] pairR (recsB rs) (fun k=>k=B∨k<n0) w:=fun l J Jx W hW hJ hJx hY h0=>by
 have hBW:=hB.belowS hW;have hkW:∀k,k<n0->W.heap[k]?=w.heap[k]?:=fun k hk=>hW.block k (by omega)
 have HM:=Lib.hid hm;have HC:=Lib.hid hC;have HA:=Lib.hid hA;clear hm hC hB hA;refine callsIn_of_wp Tryd.func83 rfl trivial ?_ rfl;simp only[Tryd.ntmps83,List.size_toArray,List.length_cons,List.length_nil,Nat.reduceAdd,Nat.reduceSub,Array.replicate_succ,Array.replicate_zero,List.push_toArray,List.append_toArray,List.nil_append,List.cons_append];have c01:W.cell? ⟨B,1,none⟩=some (.slice A m c):=hBW.cell (j:=1) rfl
 gi_wp2
 clear c01
 gi_loopw [3] (fun i wr=>∃j:Nat,j<=m∧i=.int .i64 ((m:Int) - 1 - (j:Int))∧J ((recsB rs).take j) wr∧Blk wr B 26 [.int .i64 st,.slice A m c]∧(∀k,k<n0->wr.heap[k]?=w.heap[k]?)) (fun i wr=>(intOf i+1).toNat)
 case atStart=>exact⟨0,by omega,by simp,h0,hBW,hkW⟩
 case round=>
  clear hBW hkW;obtain⟨j,hj,rfl,hJj,hb0,hkr⟩:=hrel;have c1:wr.cell? ⟨B,1,none⟩=some (.slice A m c):=hb0.cell (j:=1) rfl;have HKR:=Lib.hid hkr;clear hkr
  by_cases hlt:j<m
  ·obtain⟨p,hp⟩:∃p,p=m - 1 - j:=⟨_,rfl⟩
   have ep:(m:Int) - 1 - (j:Int)=(p:Int):=by omega
   have p0:(0:Int)<=(p:Int):=by omega
   have d1:decide ((0:Int)<=(p:Int))=true:=decide_eq_true p0;have p1:(p:Int)<(m:Int):=by omega
   obtain⟨ad,hA',e0,e1,e2,e3,e4⟩:=at_T43 HC.out (p:Int) p0 p1;have hbl:=HKR.out ad.block (HA.out ad hA' (by omega));replace e0:=cell_at hbl (by simp[add_blk]) e0;replace e1:=cell_at hbl (by simp[add_blk]) e1;replace e2:=cell_at hbl (by simp[add_blk]) e2;replace e3:=cell_at hbl (by simp[add_blk]) e3;replace e4:=cell_at hbl (by simp[add_blk]) e4;obtain⟨x,hx⟩:∃x,rd_T43 rs (p:Int)=x:=⟨_,rfl⟩
   rw[hx] at e0 e1 e2 e3 e4;simp only[Int.toNat_natCast] at e0 e1 e2 e3 e4;subst hA';rw[ep];have hstep:(recsB rs).take (j+1)=(recsB rs).take j++[(p,x)]:=by
    have h1:=recsB_step rs j (by rw[HM.out];exact hlt);rw[HM.out, <-hp,hx] at h1;exact h1
   obtain⟨fn',tmps,assign,body,hy,hR⟩:=hY ((recsB rs).take j) (p,x) wr hJj (by
    rw[<-hstep];exact List.take_prefix _ _)
   dsimp only[pairR] at hy
   have HP:=Lib.hid (And.intro hp (And.intro ep hstep));clear hp ep hstep hx hbl
   gi_wp2
   refine hR.mono ?_
   rintro e W3 (⟨rfl,hJ3,hk3⟩ |⟨rfl,hJ3⟩)
   ·have hb0':Blk W3 B 26 [.int .i64 st,.slice (some ad) m c]:=hb0.move (hk3 B (Or.inl rfl));have hkr':∀k,k<n0->W3.heap[k]?=w.heap[k]?:=fun k hk=>(hk3 k (Or.inr hk)).trans (HKR.out k hk)
    gi_wp2
    go_roundw
    case rel=>
     refine⟨j+1,by omega,by have:=HP.out.2.1;rw[<-this];first |(congr 1;omega) |(congr 1),?_,hb0',hkr'⟩;rw[HP.out.2.2];exact hJ3
    case measure=>simp[intOf]
   ·gi_wp2
    refine bodyPost_ret (results_none rfl _ _ _) rfl ?_;refine⟨⟨_,rfl⟩,.inr ⟨_,?_,hJ3⟩⟩;rw[<-HP.out.2.2];exact List.take_prefix _ _
  ·obtain rfl:j=m:=by omega
   have d1:decide ((0:Int)<=(j:Int) - 1 - (j:Int))=false:=decide_eq_false (by omega);have e1:(j:Int) - 1 - (j:Int)= -1:=by omega
   rw[e1]
   gi_wp2
   go_end0
   refine⟨⟨_,rfl⟩,.inl ?_⟩;rw[List.take_of_length_le (by rw[recsB_len,HM.out];exact Nat.le_refl _)] at hJj;exact hJj
end Go.Proofs.YtfdlmpicmkpabaaDoor.Ext
end
