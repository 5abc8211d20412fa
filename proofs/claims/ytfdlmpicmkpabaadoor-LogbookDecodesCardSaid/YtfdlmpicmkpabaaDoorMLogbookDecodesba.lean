import Derived.Test.YtfdlmpicmkpabaaDoorMLogbookDecodesap
import Derived.Test.YtfdlmpicmkpabaaDoorMLogbookDecodesaz
import Derived.Deep.Cut
import Derived.Deep.CutBlock
import Derived.Deep.CutRange
import Derived.Deep.DeepCutAuto
import Derived.StillTailTactics
import Derived.Laws.CopyOwn
import Derived.Deep.RegionLaw
/-
  Texts of this claim, one behind the other: what they prove stands above each.
-/
set_option linter.unusedVariables false
set_option linter.unusedSimpArgs false
section
namespace Go.Proofs.YtfdlmpicmkpabaaDoor.Ext
set_option maxRecDepth 100000
open Go.RowKit Go.Proofs.YtfdlmpicmkpabaaDoorW.PrintWords Go.Proofs.YtfdlmpicmkpabaaDoorW.PrintLast Go.Proofs.YtfdlmpicmkpabaaDoorW.PrintMore
attribute [local go_sem ↓] Go.wp_at_zero Go.wp_at_succ
attribute [local go_sem] u32_signed u32_max
theorem cast_blk{w:World}{g g':Nat}{t:TypeId}{C:List Value}(h:Blk w g t C)(e:g=g'):Blk w g' t C:=e ▸ h
theorem Blk.read{w:World}{g:Nat}{t:TypeId}{C D:List Value}(h:Blk w g t C)(n:Nat)(hD:D=C.take n):∀j v,D[j]?=some v->w.cell? ((⟨g,0,none⟩:Addr).add j)=some v:=by
 intro j v hj;rw[Addr.add_mid,Nat.zero_add];subst hD;rw[List.getElem?_take] at hj
 split at hj
 ·exact h.cell hj
 ·cases hj
def added(s v:Sha.St)(k:Nat):List Nat:=(List.range 8).map fun j=>if j<k then ((lst s).getD j 0+(lst v).getD j 0)%4294967296 else (lst s).getD j 0
theorem added_len(s v:Sha.St)(k:Nat):(added s v k).length=8:=by simp[added]
theorem added_get(s v:Sha.St)(k:Nat)(hk:k<8):(added s v k).getD k 0=(lst s).getD k 0:=by simp[added,List.getD_eq_getElem?_getD,hk]
theorem added_set(s v:Sha.St)(k:Nat)(hk:k<8):(added s v k).set k (((lst s).getD k 0+(lst v).getD k 0)%4294967296)=added s v (k+1):=by
 apply List.ext_getElem
 ·simp[added]
 ·intro i h1 h2;rw[List.getElem_set];simp only[added,List.getElem_map,List.getElem_range]
  by_cases e:k=i
  ·subst e;simp
  ·rw[if_neg e]
   by_cases hi:i<k
   ·rw[if_pos hi,if_pos (by omega)]
   ·rw[if_neg hi,if_neg (by omega)]
theorem added_all(s:Sha.St)(bs:List Nat):added s (Sha.rounds Sha.kk (Sha.more 48 (Sha.words 16 bs).reverse).reverse s) 8=lst (Sha.block s bs):=by
 unfold Sha.block;generalize Sha.rounds Sha.kk (Sha.more 48 (Sha.words 16 bs).reverse).reverse s=v;rfl
theorem grown_set(w:World)(g k:Nat)(v:Value):w.grownBy (w.setCell ⟨g,k,none⟩ v).drew (some g):=by
 have h:=grown_setCells (b:=g) [v] k w;exact⟨h.os,h.tape,h.output,h.size,h.block⟩
theorem gl_range{w:World}(h:GL w):w.rangeAt 0 0 (nums .u32 Sha.kk):=by
 intro j v hv;have hj:j<64:=by have:=(List.getElem?_eq_some_iff.1 hv).1;rw[nums_len] at this;exact this
 rw[nums_get (by exact hj)] at hv;rw[Nat.zero_add,h j hj,hv]
set_option maxRecDepth 100000 in
set_option maxHeartbeats 2000000 in
theorem add_walk(g g2 o c:Nat)(s:Sha.St)(hs:Bd s)(bs:List Nat)(hl:bs.length=64)(hb:∀b ∈ bs,b<256)(w:World)(hG:GL w)(hh:Blk w g 143 (nums .u32 (lst s)))
  (hc:∀j:Nat,j<64->w.cell? ⟨g2,o+j,none⟩=some (.int .u8 ((bs.getD j 0:Nat):Int))):
  Calls Tryd.prog 95 #[.pointer (some ⟨g,0,none⟩),.slice (some ⟨g2,o,none⟩) 64 c] w fun e w'=>e=.returned (.tuple #[])∧Blk w' g 143 (nums .u32 (lst (Sha.block s bs)))∧w.grownBy w' (some g):=by
 have hi88:(Tryd.prog.info? 160).map (·.size)=some 64:=by kernel_rfl
 have hi71:(Tryd.prog.info? 143).map (·.size)=some 8:=by kernel_rfl
 have HI:=Lib.hid (And.intro hi88 hi71);clear hi88 hi71
 go_enter Tryd.func95,Tryd.ntmps95
 have hll:(nums .u32 (arr bs 48)).length=64:=by rw[nums_len];exact arr_len bs 48 (by omega)
 have hone:=nums_one .u32 (arr bs 48);obtain⟨C,hC⟩:∃C,nums .u32 (arr bs 48)=C:=⟨_,rfl⟩
 have HC:=Lib.hid hC;rw[hC] at hll hone;have HL:=Lib.hid hll;clear hC hll
 go_upto_region 2 with (first |(go_at_call 107;(with_reducible refine (schedule_walk g2 o c bs hl hb _ hc).mono ?_);rintro e w1 ⟨rfl,hb1⟩;rw[HC.out]) |(refine store_all (by rfl) 160 (.tmp 4) (.tmp 14) (by rfl) _ C (by rfl) (by rfl) _ _ (Blk.newA _ _ _ (nums .u32 (List.replicate 64 0)) (by rfl)) (by rw[HL.out];rfl) (by rw[HL.out];exact HI.out.1) hone ?_;intro w2 hW hg2 hz2) |(refine load_all (by rfl) 143 (.tmp 16) (by rfl) g (by rfl) (nums .u32 (lst s)) (Blk.range (Blk.grown (Blk.alloc (Blk.belowS hh hb1) _) hg2 (by have:=hh.lt;have:=hb1.size;simp;omega))) _ Tryd.underlying143 (by rfl) (by exact HI.out.2) ?_) |(refine store_all (by rfl) 143 (.tmp 5) (.tmp 17) (by rfl) _ (nums .u32 (lst s)) (by rfl) (by rfl) _ _ (cast_blk (Blk.newA _ _ _ (nums .u32 (List.replicate 8 0)) (by rfl)) (by simpa using hz2)) (by rfl) (by exact HI.out.2) (nums_one _ _) ?_;intro w3 hV hg3 hz3))
 have hA3:Blk w3 w1.heap.size 160 C:=Blk.grown (Blk.alloc hW _) hg3 (by simp);have hb3:Below w.heap.size w w3:=by
  have hs1:=hb1.size;have hs2:w1.heap.size+1=w2.heap.size:=by simpa using hz2.symm
  refine grown_below hg3 (Below.alloc (grown_below hg2 (hb1.alloc hs1 _) hs1 (by simp;omega)) (by omega) _) (by omega) (by simp;omega)
 have hgw:g<w1.heap.size:=Nat.lt_of_lt_of_le hh.lt hb1.size;have hh3:Blk w3 g 143 (nums .u32 (lst s)):=hh.belowS hb3;have hG3:GL w3:=hG.below hb3;have hKr:=gl_range hG3;have hz3':w3.heap.size=w1.heap.size+2:=by rw[hz3];simp at hz2 ⊢;omega
 have hww:w.heap.size<=w1.heap.size:=hb1.size;clear hz2 hz3 hg2 hg3 hW hb1 hG3;have HZ:=Lib.hid hz3';clear hz3';obtain⟨K,hK⟩:∃K,nums .u32 Sha.kk=K:=⟨_,rfl⟩
 have hKg:∀k:Nat,k<64->K[k]?=some (.int .u32 ((Sha.kk.getD k 0:Nat):Int)):=fun k hk=>by rw[<-hK];exact nums_get hk
 have hKl:K.length=64:=by rw[<-hK];rfl
 rw[hK] at hKr;have HKg:=Lib.hid (And.intro hKg hKl);clear hKg hK hKl;simp only[Act.put];generalize w1.heap.size=A at*
 go_wp2_with (refine load_all (by rfl) 160 (.global 0) (by rfl) 0 (by rfl) K hKr _ Tryd.underlying160 (by rfl) (by rw[HKg.out.2];exact HI.out.1) ?_)
 have hWl:(arr bs 48).length=64:=arr_len bs 48 (by omega);have HWl:=Lib.hid hWl;clear hWl
 go_loopw [19] (fun i wr=>∃k:Nat,k<=64∧i=.int .i64 (k:Int)∧Blk wr (A+1) 143 (nums .u32 (lst (upto k (arr bs 48) s)))∧Below (A+1) w3 wr) (fun i wr=>64 - (intOf i).toNat)
 case atStart=>exact⟨0,by omega,rfl,hV,Below.refl _ _⟩
 case round=>
  obtain⟨k,hk,rfl,hv,hbel⟩:=hrel;have hvl:=hv.lt
  by_cases hlt:k<64
  ·have d1:decide ((k:Int)<64)=true:=decide_eq_true (by omega);have hbd:=upto_bd (arr bs 48) s hs HWl.out k hk;obtain⟨st,hst⟩:∃st,upto k (arr bs 48) s=st:=⟨_,rfl⟩
   have HST:=Lib.hid hst;rw[hst] at hv hbd;clear hst;obtain⟨kv,hkv⟩:∃q:Nat,Sha.kk.getD k 0=q:=⟨_,rfl⟩
   obtain⟨x,hx⟩:∃q:Nat,(arr bs 48).getD k 0=q:=⟨_,rfl⟩
   have hix:∀w,(Instr.index 160 (.agg K.toArray) (.int .i64 (k:Int))).run Tryd.prog w=.ok (.int .u32 (kv:Int)) w:=run_index_agg Tryd.underlying160 (fun _=>by kernel_rfl) (fun _=>by kernel_rfl) hlt (by have:=HKg.out.1 k hlt;rw[hkv] at this;simpa using this)
   have cW:wr.cell? ⟨A,k,none⟩=some (.int .u32 (x:Int)):=by
    rw[<-hx];refine Blk.cell (hA3.below hbel (by omega)) ?_;rw[<-HC.out];exact nums_get (by rw[HWl.out];exact hlt)
   have HKX:=Lib.hid (And.intro hkv hx);clear hkv hx;have c0:wr.cell? ⟨A+1,0,none⟩=some (.int .u32 (st.a:Int)):=hv.cell rfl;have c1:wr.cell? ⟨A+1,1,none⟩=some (.int .u32 (st.b:Int)):=hv.cell rfl;have c2:wr.cell? ⟨A+1,2,none⟩=some (.int .u32 (st.c:Int)):=hv.cell rfl;have c4:wr.cell? ⟨A+1,4,none⟩=some (.int .u32 (st.e:Int)):=hv.cell rfl;have c5:wr.cell? ⟨A+1,5,none⟩=some (.int .u32 (st.f:Int)):=hv.cell rfl;have c6:wr.cell? ⟨A+1,6,none⟩=some (.int .u32 (st.g:Int)):=hv.cell rfl;have c7:wr.cell? ⟨A+1,7,none⟩=some (.int .u32 (st.h:Int)):=hv.cell rfl;have fk:((k:Int)<64)=True:=eq_true (by omega);have h5:=hbd.2.2.2.2.1;have h1:=hbd.1;have HBD:=Lib.hid hbd;clear hbd
   go_wp2
   go_quiet (fail)
   go_wp2
   have hti:=t_is st kv x HBD.out;have hui:=u_is st HBD.out;obtain⟨T,hT⟩:∃T,tOf st kv x=T:=⟨_,rfl⟩
   obtain⟨U,hU⟩:∃U,uOf st=U:=⟨_,rfl⟩
   rw[hT] at hti;rw[hU] at hui;have HTU:=Lib.hid (And.intro hT hU);clear hT hU
   go_region_held3 (fun w'=>w'.cell? ⟨A+1,7,none⟩=some (.int .u32 (st.h:Int))∧w'.cell? ⟨A+1,5,none⟩=some (.int .u32 (st.f:Int))∧w'.cell? ⟨A+1,6,none⟩=some (.int .u32 (st.g:Int))∧w'.cell? ⟨A,k,none⟩=some (.int .u32 (x:Int))) (first |exact⟨c7,c5,c6,cW⟩ |(refine⟨?_,?_,?_,?_⟩<;>(repeat (first |exact c7 |exact c5 |exact c6 |exact cW |refine c_old ?_ |refine c_drewN ?_))) |(go_keep;done)) (first |(go_at_call 108;(with_reducible refine (mixed3 st.e h5 6 11 25 (by decide) (by decide) (by decide) _ _ ?_ ?_ ?_).mono ?_);(repeat (first |exact c_new _ _ _ _ _ _ rfl (by simp) |refine c_old ?_ |refine c_drewN ?_));(repeat (first |exact c_new _ _ _ _ _ _ rfl (by simp) |refine c_old ?_ |refine c_drewN ?_));(repeat (first |exact c_new _ _ _ _ _ _ rfl (by simp) |refine c_old ?_ |refine c_drewN ?_));rintro e w' ⟨rfl,n,rfl⟩))
   clear hti
   go_wp2
   go_region_held3 (fun w'=>w'.cell? ⟨A+1,1,none⟩=some (.int .u32 (st.b:Int))∧w'.cell? ⟨A+1,2,none⟩=some (.int .u32 (st.c:Int))) ((refine⟨?_,?_⟩<;>(repeat (first |exact c1 |exact c2 |refine c_old ?_ |refine c_drewN ?_ |refine c_drew ?_)))) (first |(go_at_call 108;(with_reducible refine (mixed3 st.a h1 2 13 22 (by decide) (by decide) (by decide) _ _ ?_ ?_ ?_).mono ?_);(repeat (first |exact c_new _ _ _ _ _ _ rfl (by simp) |refine c_old ?_ |refine c_drewN ?_));(repeat (first |exact c_new _ _ _ _ _ _ rfl (by simp) |refine c_old ?_ |refine c_drewN ?_));(repeat (first |exact c_new _ _ _ _ _ _ rfl (by simp) |refine c_old ?_ |refine c_drewN ?_));rintro e w' ⟨rfl,n,rfl⟩))
   clear hui
   go_wp2
   have hsz1:(Tryd.prog.info? 117).map (·.size)=some 1:=by kernel_rfl
   have HS1:=Lib.hid hsz1;clear hsz1
   go_region_law ((refine step_copy_splice (by rfl) (.tmp 69) (.tmp 70) 118 118 (by rfl) 117 Tryd.underlying118 HS1.out _ _ _ _ _ _ (by rfl) (by rfl) (A+1) 1 (nums .u32 (lst st)) 143 (Blk.heap (by repeat (first |exact hv |refine Blk.drewN ?_ _ |refine Blk.alloc ?_ _ |refine Blk.drew ?_))) (nums .u32 [st.a,st.b,st.c,st.d,st.e,st.f,st.g]) (by rfl) (fun _=>⟨by rfl,_,by rfl,Blk.read (C:=nums .u32 (lst st)) (t:=143) (by repeat (first |exact hv |refine Blk.drewN ?_ _ |refine Blk.alloc ?_ _ |refine Blk.drew ?_)) 7 (by rfl)⟩) (by simp[nums,lst]) (by simp[nums,Value.oneCell']) (A+1) w3 (by repeat (first |exact hbel |refine below_dN ?_ _ |refine Below.drew ?_ |refine Below.alloc ?_ (by simp;omega) _)) (Nat.le_refl _) ?_;intro w4 hw4 hb4))
   have hv4:Blk w4 (A+1) 143 (nums .u32 [st.a,st.a,st.b,st.c,st.d,st.e,st.f,st.g]):=hw4.out;clear hw4;have e4:w4.cell? ⟨A+1,4,none⟩=some (.int .u32 (st.d:Int)):=hv4.cell rfl;have e0:w4.cell? ⟨A+1,0,none⟩=some (.int .u32 (st.a:Int)):=hv4.cell rfl;have f4:=hv4.free 4;have f0:=hv4.free 0;have u0:IntKind.u32.wrap ((T:Int)+(U:Int))=(((T+U)%4294967296:Nat):Int):=by rw[IntKind.wrap_u32];omega
   have u1:IntKind.u32.wrap ((st.d:Int)+(T:Int))=(((st.d+T)%4294967296:Nat):Int):=by rw[IntKind.wrap_u32];omega
   go_wp2
   go_roundw
   case rel=>
    refine⟨k+1,by omega,by go_num,?_,?_⟩
    ·have hu:=upto_succ k (arr bs 48) s hlt HWl.out;rw[HST.out,HKX.out.1,HKX.out.2] at hu;rw[hu,rnd_is,HTU.out.1,HTU.out.2];have h9:=(hv4.set 0 (.int .u32 (((T+U)%4294967296:Nat):Int))).set 4 (.int .u32 (((st.d+T)%4294967296:Nat):Int));rw[nums_set,nums_set] at h9;exact h9
    ·exact Below.setCell (p:=⟨A+1,4,none⟩) (Below.setCell (p:=⟨A+1,0,none⟩) hb4 (Nat.le_refl _) _) (Nat.le_refl _) _
   case measure=>simp[intOf];omega
  ·obtain rfl:k=64:=by omega
   have hu:=upto_all (arr bs 48) s HWl.out;rw[arr_all bs hl] at hu;rw[arr_all bs hl,hu] at hv;obtain⟨v,hve⟩:∃v,Sha.rounds Sha.kk (Sha.more 48 (Sha.words 16 bs).reverse).reverse s=v:=⟨_,rfl⟩
   rw[hve] at hv;have HVE:=Lib.hid hve;clear hu hve;rw[show ((64:Nat):Int)=64 from rfl]
   go_wp2
   have hh5:Blk wr g 143 (nums .u32 (lst s)):=hh3.below hbel (by omega);have hb5:Below w.heap.size w wr:=hb3.trans (hbel.mono (by omega));clear hbel;obtain⟨w5,rfl⟩:∃w5:World,w5=wr:=⟨_,rfl⟩
   go_loopw [82] (fun i wq=>∃k:Nat,k<=8∧i=.int .i64 (k:Int)∧Blk wq g 143 (nums .u32 (added s v k))∧w5.grownBy wq (some g)) (fun i wq=>8 - (intOf i).toNat)
   case atStart=>exact⟨0,by omega,rfl,hh5,⟨rfl,rfl,rfl,Nat.le_refl _,fun _ _ _=>rfl⟩⟩
   case round=>
    obtain⟨k,hk8,rfl,hq,hgr⟩:=hrel;have hvq:Blk wr (A+1) 143 (nums .u32 (lst v)):=hv.grown hgr (fun e=>by injection e;omega)
    by_cases hk7:k<8
    ·have d2:decide ((k:Int)<8)=true:=decide_eq_true (by omega);obtain⟨p,hp⟩:∃p,(added s v k).getD k 0=p:=⟨_,rfl⟩
     obtain⟨q,hq'⟩:∃q,(lst v).getD k 0=q:=⟨_,rfl⟩
     have cp:wr.cell? ⟨g,k,none⟩=some (.int .u32 (p:Int)):=by rw[<-hp];exact hq.cell (nums_get (by rw[added_len];exact hk7))
     have cq:wr.cell? ⟨A+1,k,none⟩=some (.int .u32 (q:Int)):=by rw[<-hq'];exact hvq.cell (nums_get hk7)
     have cf:=hq.free k;have fk:((k:Int)<8)=True:=eq_true (by omega);have HPQ:=Lib.hid (And.intro hp hq');clear hp hq'
     go_wp2
     go_still_tail 11,(by kernel_rfl)
     change wpList _ _ _ _ _ wr.drew;have cf2:wr.drew.frozen? ⟨g,k,none⟩=false:=cf;have cp2:wr.drew.cell? ⟨g,k,none⟩=some (.int .u32 (p:Int)):=cp
     go_wp2
     go_roundw
     case rel=>
      refine⟨k+1,by omega,by go_num,?_,?_⟩
      ·obtain⟨hp,hq'⟩:=HPQ.out;rw[added_get s v k hk7] at hp;have h9:=hq.set k (.int .u32 (((p+q)%4294967296:Nat):Int));rw[nums_set, <-hp, <-hq',added_set s v k hk7] at h9;rw[hp,hq'] at h9;exact h9
      ·exact grown_trans hgr (grown_set wr g k _)
     case measure=>simp[intOf];omega
    ·obtain rfl:k=8:=by omega
     go_wp2
     rw[<-HVE.out,added_all] at hq
     go_end0
     exact⟨rfl,hq,grown_trans (below_grown (B:=0) hb5 _) hgr⟩
end Go.Proofs.YtfdlmpicmkpabaaDoor.Ext
end
