import Derived.Test.YtfdlmpicmkpabaaDoorMLogbookDecodesbb
import Derived.Test.YtfdlmpicmkpabaaDoorMLogbookDecodesaj
import Derived.Test.YtfdlmpicmkpabaaDoorMLogbookDecodesae
/-
  Texts of this claim, one behind the other: what they prove stands above each.
-/
set_option linter.unusedVariables false
set_option linter.unusedSimpArgs false
section
namespace Go.Proofs.YtfdlmpicmkpabaaDoor.Ext
set_option maxRecDepth 100000
open Go.RowKit Go.Shelf Go.Proofs.YtfdlmpicmkpabaaDoorW.PrintWords Go.Proofs.YtfdlmpicmkpabaaDoorW.PrintLast Go.Proofs.YtfdlmpicmkpabaaDoorW.PrintMore
attribute [local go_sem] Oper.semAt_some
def lenOf(v:Value):Nat:=match v with | .slice _ n _=>n |_=>0
theorem infoQ8:(Tryd.prog.info? 5).map (fun i=>(i.zero,i.size,i.bytes))=some (some (.int .u8 0),1,1):=by kernel_rfl
def zeros(n:Nat):Nat:=(119 - n%64)%64
def tail8(n:Nat):List Nat:=[(8*n) / 2^56%256,(8*n) / 2^48%256,(8*n) / 2^40%256,(8*n) / 2^32%256,(8*n) / 2^24%256,(8*n) / 2^16%256,(8*n) / 2^8%256,(8*n)%256]
theorem pad_is(n:Nat):Sha.pad n=128::(List.replicate (zeros n) 0++tail8 n):=rfl
theorem tail8_at(n k:Nat)(hk:k<8):(tail8 n).getD k 0=(8*n) / 2 ^ (8*(7 - k))%256:=by
 have hk':k=0∨k=1∨k=2∨k=3∨k=4∨k=5∨k=6∨k=7:=by omega
 rcases hk' with rfl |rfl |rfl |rfl |rfl |rfl |rfl |rfl<;>simp[tail8]
theorem buf_len{w:World}{b:Nat}{v:Value}{l:List Nat}(h:Buf w b v l):lenOf v=l.length:=by obtain⟨g,c,rfl,_⟩:=h;rfl
theorem blocks_succ(n:Nat):∀(s:Sha.St) (l:List Nat),Sha.blocks (n+1) s l=Sha.block (Sha.blocks n s l) ((l.drop (64*n)).take 64):=by
 induction n with
 |zero=>intro s l;simp[Sha.blocks]
 |succ n ih=>
  intro s l;rw[Sha.blocks,ih,Sha.blocks,List.drop_drop];congr 3;omega
theorem block_bd(s:Sha.St)(b:List Nat):Bd (Sha.block s b):=by
 unfold Sha.block;exact⟨Nat.mod_lt _ (by decide),Nat.mod_lt _ (by decide),Nat.mod_lt _ (by decide),Nat.mod_lt _ (by decide),Nat.mod_lt _ (by decide),Nat.mod_lt _ (by decide),Nat.mod_lt _ (by decide),Nat.mod_lt _ (by decide)⟩
theorem init_bd:Bd Sha.init:=by unfold Bd Sha.init;decide
theorem blocks_bd(n:Nat)(l:List Nat):Bd (Sha.blocks n Sha.init l):=by
 cases n with
 |zero=>exact init_bd
 |succ n=>rw[blocks_succ];exact block_bd _ _
theorem pad_lt(n:Nat):∀x ∈ Sha.pad n,x<256:=by
 intro x hx;rw[pad_is] at hx;simp only[List.mem_cons,List.mem_append,List.mem_replicate,tail8,List.not_mem_nil,or_false] at hx;rcases hx with rfl |⟨_,rfl⟩ |rfl |rfl |rfl |rfl |rfl |rfl |rfl |rfl<;>first |decide |exact Nat.mod_lt _ (by decide)
theorem prefix_range{pre:List Nat}{x q:Nat}(h:pre++[x]<+:List.range q):x=pre.length∧pre=List.range pre.length∧pre.length<q:=by
 obtain⟨t,ht⟩:=h;have hl:pre.length<q:=by have:=congrArg List.length ht;simp at this;omega
 have h1:=congrArg (fun l=>l.take pre.length) ht;have h2:=congrArg (fun l=>l[pre.length]?) ht;simp at h1 h2;rw[List.getElem?_range hl] at h2;refine⟨by simpa using h2,?_,hl⟩
 simpa [Nat.min_eq_left (Nat.le_of_lt hl)] using h1
set_option maxRecDepth 100000 in
set_option maxHeartbeats 1000000 in
theorem Sum_walk(s:ByteArray)(hs:s.size<=140737488350000)(w:World)(hG:GL w):
  Calls Tryd.prog 79 #[.string s] w fun e w'=>e=.returned (.string (str (Sha.sha (nat s))))∧Below w.heap.size w w':=by
 obtain⟨i0,hi,hz0,hz1,hz2⟩:=info_parts infoQ8;refine calls_of_wp_marks Tryd.func79 rfl ?_;simp only[Tryd.ntmps79,List.size_toArray,List.length_cons,List.length_nil,Nat.reduceAdd,Nat.reduceSub,Array.replicate_succ,Array.replicate_zero,List.push_toArray,List.append_toArray,List.nil_append,List.cons_append];have hml:s.size<=maxLen:=by unfold maxLen;omega
 obtain⟨n,hn⟩:∃n,s.size=n:=⟨_,rfl⟩
 have hnl:(nat s).length=n:=by rw[nat_length,hn]
 obtain⟨S,hS⟩:∃S,nat s=S:=⟨_,rfl⟩
 rw[hS] at hnl;have HS:=Lib.hid (And.intro hS (And.intro hn hnl));have hn0:n<=140737488350000:=by omega
 clear hn hnl hS
 go_wp2_with (first |(refine wpList_conv_buf (by rfl) 9 48 5 (.tmp 8) (by rfl) Tryd.underlying9 Tryd.underlying48 Tryd.underlying5 s (by rfl) hml ?_;intro v1 w1 hv1 hb1 hz;have HZ:=Lib.hid hz;clear hz;rw[HS.out.1] at hv1) |(at_builtin;refine wpList_append_buf (by rfl) (.tmp 9) (.tmp 10) 48 (by rfl) 5 i0 Tryd.underlying48 hi hz0 hz1 hz2 (w.heap.size+1) v1 S (by rfl) (by simpa using hv1.alloc _) (by have:=HZ.out;simp at this ⊢;omega) ⟨w1.heap.size,0,none⟩ 128 1 (by rfl) (c_new _ _ _ _ _ _ rfl rfl) (by rw[HS.out.2.2];omega) ?_;intro v2 w2 hv2 hb2))
 have hz1':w1.heap.size=w.heap.size+2:=by have:=HZ.out;simpa using this
 have hH1:Blk w1 w.heap.size 143 (nums .u32 (lst Sha.init)):=(Blk.newA w _ _ _ rfl).belowS hb1;have hH:Blk w2 w.heap.size 143 (nums .u32 (lst Sha.init)):=(hH1.alloc _).below hb2 (by omega);have hbel:Below w.heap.size w w2:=(((Below.refl _ _).alloc (Nat.le_refl _) _).trans (hb1.mono (by simp))).trans (((Below.refl _ _).alloc (by omega) _).trans (hb2.mono (by omega)));have hzz:w.heap.size+1<w2.heap.size:=by have:=hb2.size;simp at this;omega
 have HZ1:=Lib.hid hz1';clear hz1' hH1 hb1 hb2 hv1;obtain⟨z,hz⟩:∃z,zeros n=z:=⟨_,rfl⟩
 have hz64:z<64:=by rw[<-hz];unfold zeros;omega
 have HZN:=Lib.hid hz;clear hz
 go_loopw [4] (fun v wr=>∃m:Nat,m<=z∧Buf wr (w.heap.size+1) v (S++[128]++List.replicate m 0)∧Blk wr w.heap.size 143 (nums .u32 (lst Sha.init))∧Below w.heap.size w wr∧w.heap.size+1<wr.heap.size) (fun v wr=>n+1+z - lenOf v)
 case atStart=>exact⟨0,by omega,by simpa using hv2,hH,hbel,hzz⟩
 case round=>
  clear hH hbel hzz;obtain⟨m,hm,hv,hH,hbel,hzz⟩:=hrel;obtain⟨L,hL⟩:∃L,(S++[128]++List.replicate m 0).length=L:=⟨_,rfl⟩
  obtain⟨g,c,hve,hbg,hgw,hlc,hcm,hcc,hcf⟩:=id hv;rw[hL] at hve hlc;subst hve;have hL2:L=n+1+m:=by rw[<-hL];simp[HS.out.2.2];omega
  have HL:=Lib.hid (And.intro hL hL2);have HV:=Lib.hid hv;clear hL hv hcc hcf;have hcm':c<=9223372036854775807:=hcm
  by_cases hlt:m<z
  ·have h56:¬L%64=56:=by have h:=HZN.out;unfold zeros at h;omega
   have e1:((L:Int)%64 !=56)=true:=by simp;omega
   clear hL2 h56
   go_wp2_with (at_builtin;refine wpList_append_buf (by rfl) (.tmp 16) (.tmp 17) 48 (by rfl) 5 i0 Tryd.underlying48 hi hz0 hz1 hz2 (w.heap.size+1) _ (S++[128]++List.replicate m 0) (by rfl) (HV.out.alloc _) (by simp;omega) ⟨wr.heap.size,0,none⟩ 0 1 (by rfl) (c_new _ _ _ _ _ _ rfl rfl) (by rw[HL.out.1,HL.out.2];omega) ?_;intro v3 w3 hv3 hb3)
   go_roundw
   case rel=>
    refine⟨m+1,by omega,?_,(hH.alloc _).below hb3 (by omega),hbel.trans ((((Below.refl _ _).alloc (by omega) _).trans (hb3.mono (by omega)))),?_⟩
    ·rw[List.replicate_succ', <-List.append_assoc];exact hv3
    ·have:=hb3.size;simp at this;omega
   case measure=>
    have h1:=buf_len hv3;have h2:=HL.out;rw[List.length_append,HL.out.1,List.length_singleton] at h1;rw[h1];simp[lenOf];omega
  ·obtain rfl:m=z:=by omega
   have h56:L%64=56:=by have h:=HZN.out;unfold zeros at h;omega
   have e1:((L:Int)%64 !=56)=false:=by simp;omega
   clear hL2 h56
   go_wp2
   have hnt:(tail8 n).length=8:=rfl;obtain⟨T,hT⟩:∃T,tail8 n=T:=⟨_,rfl⟩
   obtain⟨P1,hP1⟩:∃P1,S++[128]++List.replicate m 0=P1:=⟨_,rfl⟩
   have hv:=HV.out;rw[hP1] at hv;rw[hT] at hnt;have hPl:P1.length=L:=by rw[<-hP1];exact HL.out.1
   have HPT:=Lib.hid (And.intro hP1 (And.intro hPl (And.intro hT hnt)));clear hT hP1 hPl hnt e1;have hLn:L<=n+65:=by have:=HL.out.2;omega
   obtain⟨wo,rfl⟩:∃wo:World,wo=wr:=⟨_,rfl⟩
   go_loopw [5,4] (fun i v wr=>∃k:Nat,k<=8∧i=.int .i64 (7 - (k:Int))∧Buf wr (w.heap.size+1) v (P1++T.take k)∧Blk wr w.heap.size 143 (nums .u32 (lst Sha.init))∧Below w.heap.size w wr∧w.heap.size+1<wr.heap.size) (fun i v wr=>(intOf i+1).toNat)
   case atStart=>exact⟨0,by omega,by simp,by simpa using hv,hH,hbel,hzz⟩
   case round=>
    clear hH hbel hzz hv;obtain⟨k,hk,rfl,hv,hH,hbel,hzz⟩:=hrel;obtain⟨L',hL'⟩:∃L',(P1++T.take k).length=L':=⟨_,rfl⟩
    obtain⟨g',c',hve,hbg',hgw',hlc',hcm',hcc',hcf'⟩:=id hv;rw[hL'] at hve hlc';subst hve;have HV':=Lib.hid (And.intro hv hL');clear hv hL' hcc' hcf';have hcm2:c'<=9223372036854775807:=hcm'
    by_cases hlt:k<8
    ·have d1:decide (0<=7 - (k:Int))=true:=decide_eq_true (by omega);have d2:decide ((k:Int)<=7)=true:=decide_eq_true (by omega);obtain⟨r,hr⟩:∃r:Nat,r=8*(7 - k):=⟨_,rfl⟩
     have g1:(8:Int)*(7 - (k:Int))=(r:Int):=by omega
     have hsn:(s.size:Int)=(n:Int):=by rw[HS.out.2.1]
     obtain⟨y,hy⟩:∃y:Nat,y=T.getD k 0:=⟨_,rfl⟩
     have hyv:8*(n:Int) / 2 ^ r%256=(y:Int):=by
      have h:=tail8_at n k hlt;rw[HPT.out.2.2.1, <-hy, <-hr] at h;rw[h];simp
     have HR:=Lib.hid (And.intro hr hy);have hLL:L'<=L+8:=by
      rw[<-HV'.out.2,List.length_append,HPT.out.2.1];have:=List.length_take_le k T;omega
     clear hr hy
     go_wp2_with (at_builtin;refine wpList_append_buf (by rfl) (.tmp 23) (.tmp 31) 48 (by rfl) 5 i0 Tryd.underlying48 hi hz0 hz1 hz2 (w.heap.size+1) _ (P1++T.take k) (by rfl) (HV'.out.1.alloc _) (by simp;omega) ⟨wr.heap.size,0,none⟩ y 1 (by rfl) (c_new _ _ _ _ _ _ rfl rfl) (by rw[HV'.out.2];omega) ?_;intro v3 w3 hv3 hb3)
     go_roundw
     case rel=>
      refine⟨k+1,by omega,by go_num,?_,(hH.alloc _).below hb3 (by omega),hbel.trans ((((Below.refl _ _).alloc (by omega) _).trans (hb3.mono (by omega)))),?_⟩
      ·rw[take_snoc' (by rw[HPT.out.2.2.2];exact hlt), <-HR.out.2, <-List.append_assoc];exact hv3
      ·have:=hb3.size;simp at this;omega
     case measure=>simp[intOf];omega
    ·obtain rfl:k=8:=by omega
     have htk:T.take 8=T:=by rw[List.take_of_length_le (by rw[HPT.out.2.2.2];omega)]
     have hv:=HV'.out.1;rw[htk] at hv;have hPP:P1++T=S++Sha.pad n:=by rw[<-HPT.out.1, <-HPT.out.2.2.1,pad_is,HZN.out];simp
     have hL8:L'=L+8:=by
      rw[<-HV'.out.2,List.length_append,HPT.out.2.1,htk,HPT.out.2.2.2]
     rw[hPP] at hv;rw[show ((8:Nat):Int)=8 from rfl]
     go_wp2_with (go_at_call 94;refine (chunk_walk _ _ _ _).mono ?_;rintro e w' ⟨rfl,rfl⟩)
     obtain⟨p,hp⟩:∃p,S++Sha.pad n=p:=⟨_,rfl⟩
     have hpl:p.length=L+8:=by rw[<-hp, <-hPP,List.length_append,HPT.out.2.1,HPT.out.2.2.2]
     have hp256:∀x ∈ p,x<256:=by
      intro x hx;rw[<-hp] at hx;rcases List.mem_append.1 hx with h |h
      ·rw[<-HS.out.1] at h;exact nat_lt s x h
      ·exact pad_lt n x h
     rw[hp] at hv;obtain⟨q,hq⟩:∃q,L+8=64*q:=by
      have h1:=HL.out.2;have h2:=HZN.out;unfold zeros at h2;exact⟨(L+8) / 64,by omega⟩
     have hN:w.heap.size<wr.heap.size:=by omega
     obtain⟨gg,cc,hee,hbg2,hgw2,hlc2,hcm3,hcc2,hcf2⟩:=hv;injection hee with he1 he2 he3
     injection he1 with he1
     injection he1 with he1
     subst he1;have hby:∀j:Nat,j<64*q->wr.cell? ⟨g',j,none⟩=some (.int .u8 ((p.getD j 0:Nat):Int)):=fun j hj=>hcc2 j (by rw[hpl];omega)
     have HP:=Lib.hid (And.intro hp (And.intro hpl (And.intro hp256 (And.intro hq hby))));have hB0:Blk ((wr.alloc (.cells #[.slice (some ⟨g',0,none⟩) (L+8) c'] 48)).alloc (.cells #[.int .i64 64] 3)) wr.heap.size 48 [.slice (some ⟨g',0,none⟩) (L+8) c']:=(Blk.newA _ _ _ _ rfl).alloc _;have hB1:Blk ((wr.alloc (.cells #[.slice (some ⟨g',0,none⟩) (L+8) c'] 48)).alloc (.cells #[.int .i64 64] 3)) (wr.heap.size+1) 3 [.int .i64 64]:=cast_blk (Blk.newA _ _ _ _ rfl) (by simp);have hH0:Blk ((wr.alloc (.cells #[.slice (some ⟨g',0,none⟩) (L+8) c'] 48)).alloc (.cells #[.int .i64 64] 3)) w.heap.size 143 (nums .u32 (lst Sha.init)):=(hH.alloc _).alloc _;have hmx:c'<=9223372036854775807:=hcm2;have hgiv:=chunk1_gives wr.heap.size g' q (L+8) c' hq (by omega) hmx _ hB0 hB1;have hsz0:((wr.alloc (.cells #[.slice (some ⟨g',0,none⟩) (L+8) c'] 48)).alloc (.cells #[.int .i64 64] 3)).heap.size=wr.heap.size+2:=by simp
     have hbW:Below wr.heap.size wr ((wr.alloc (.cells #[.slice (some ⟨g',0,none⟩) (L+8) c'] 48)).alloc (.cells #[.int .i64 64] 3)):=((Below.refl _ _).alloc (Nat.le_refl _) _).alloc (by simp) _;clear hp hpl hp256 hq hby he2 he3 hcc2 hcf2 hPP hL8 htk;generalize ((wr.alloc (.cells #[.slice (some ⟨g',0,none⟩) (L+8) c'] 48)).alloc (.cells #[.int .i64 64] 3))=W0 at*
     refine wp_rangeFunc_one (gf:=106) (lb:= #[.pointer (some ⟨wr.heap.size,0,none⟩),.pointer (some ⟨wr.heap.size+1,0,none⟩)]) rfl (enters_of Tryd.func106 (by kernel_rfl) rfl) (KS:=fun k=>k=wr.heap.size∨k=wr.heap.size+1) (by intro k hk;omega) hgiv (Below.refl _ _) (fun _=>rfl)
      (fun pre W=>Blk W w.heap.size 143 (nums .u32 (lst (Sha.blocks pre.length Sha.init p)))∧W0.grownBy W (some w.heap.size)) (OwnFrom.and (own_blk _ (by omega)) (own_grown _ (Nat.le_refl _))) ⟨hH0,⟨rfl,rfl,rfl,Nat.le_refl _,fun _ _ _=>rfl⟩⟩ ?body ?done
     case body=>
      intro l pre x W hI hpre;obtain⟨hbW1,hgr⟩:=hI;obtain⟨rfl,hpr,hlq⟩:=prefix_range hpre;obtain⟨j,hj⟩:∃j,pre.length=j:=⟨_,rfl⟩
      rw[hj] at hbW1 hlq;have HJ:=Lib.hid hj;clear hpr hpre;simp only[roundAct];simp;rw[hj];clear hj;have hcb:∀i:Nat,i<64->W.cell? ⟨g',64*j+i,none⟩=some (.int .u8 ((((p.drop (64*j)).take 64).getD i 0:Nat):Int)):=by
       intro i hi;have hg1:g'<W0.heap.size:=by omega
       have h1:W.heap[g']?=W0.heap[g']?:=hgr.block g' hg1 (fun e=>by injection e;omega);have h2:W0.heap[g']?=wr.heap[g']?:=hbW.block g' (by omega);rw[World.cell?_of_block (a:=⟨g',64*j+i,none⟩) (h1.trans h2),HP.out.2.2.2.2 (64*j+i) (by omega)];have e:((p.drop (64*j)).take 64).getD i 0=p.getD (64*j+i) 0:=by
        simp[List.getD_eq_getElem?_getD,List.getElem?_take,hi,List.getElem?_drop]
       rw[e]
      have hGW:GL W:=by
       intro i hi;have h0:=hG i hi;have hlt:=World.block_lt_of_cell? w _ h0;have h1:=hgr.block 0 (by simp only at hlt;omega) (fun e=>by injection e with e;simp only at hlt;omega);have h2:=hbW.block 0 (by simp only at hlt;omega);have h3:=hbel.block 0 (by simpa using hlt);rw[World.cell?_of_block (a:=⟨0,i,none⟩) (h1.trans (h2.trans h3))];exact h0
      have hadd:=add_walk w.heap.size g' (64*j) 64 (Sha.blocks j Sha.init p) (blocks_bd _ _) ((p.drop (64*j)).take 64) (by rw[List.length_take,List.length_drop,HP.out.2.1];have:=HP.out.2.2.2.1;omega) (fun b hb=>HP.out.2.2.1 b (List.mem_of_mem_drop (List.mem_of_mem_take hb))) W hGW hbW1 hcb;have HA:=Lib.hid hadd;clear hadd hcb
      gi_wp2_with fail
      refine⟨trivial,?_⟩;refine CallsIn.mono (CallsIn.inRound l ((callsIn_wide (n:=2)).2 HA.out)) ?_
      rintro e W3 ⟨rfl,hb3,hg3⟩
      gi_wp2
      refine⟨keeps_grown hg3 (by omega),?_,?_,grown_trans hgr hg3⟩
      ·intro k hk;exact hg3.block k (by have:=hgr.size;omega) (fun e=>by injection e;omega)
      ·rw[List.length_append,HJ.out,List.length_singleton,blocks_succ];exact hb3
     case done=>
      rintro D W hD ⟨hbW1,hgr⟩ hK
      rw[List.length_range] at hbW1;have hi71:(Tryd.prog.info? 143).map (·.size)=some 8:=by kernel_rfl
      have HI:=Lib.hid hi71;clear hi71
      go_wp2_with (first |(refine load_all (by rfl) 143 (.tmp 3) (by rfl) w.heap.size (by rfl) (nums .u32 (lst (Sha.blocks q Sha.init p))) hbW1.range _ Tryd.underlying143 (by rfl) (by exact HI.out) ?_) |(go_at_call 96;(with_reducible refine (digest_walk (Sha.blocks q Sha.init p) (blocks_bd _ _) _).mono ?_);rintro e w9 ⟨rfl,hb9⟩))
      refine⟨by simp,.inl ⟨_,_,rfl,run_takeDeferred ((hb9.block D (Array.getElem?_eq_some_iff.1 hK).1).trans hK),?_⟩⟩;have hDW:W.heap[D]?=some (.deferred (some [])):=hK;have hD9:w9.heap[D]?=some (.deferred (some [])):=(hb9.block D (Array.getElem?_eq_some_iff.1 hK).1).trans hK;have hgs:=hgr.size;refine⟨_,results_tmp rfl _ _ _,?_,?_⟩
      ·have hsh:Sha.sha (nat s)=Sha.out (Sha.blocks q Sha.init p):=by
        unfold Sha.sha;simp only;rw[nat_length,HS.out.1,HS.out.2.1,HP.out.1,HP.out.2.1,HP.out.2.2.2.1];rw[Nat.mul_div_cancel_left _ (by decide)]
       rw[hsh];rfl
      ·have b1:Below w.heap.size w W0:=hbel.trans (hbW.mono (by omega));have b2:Below w.heap.size w W:=grown_below hgr b1 (Nat.le_refl _) (by omega);have b3:Below w.heap.size w w9:=b2.trans (hb9.mono (by omega));exact b3.trans (belowK_b (w:=w) (Nat.le_refl _) w9 D _ _ (by omega) hD9 rfl rfl)
end Go.Proofs.YtfdlmpicmkpabaaDoor.Ext
end
